import PyProof.Rows.All
import Wide.All
import OpenK.AllK
import Wide.FinOn
import KE.KStateDown
import Lean
import HandS.ForMost
import HandS.More
import HandS.WordsExc
import HandS.Defaults
import HandS.Head0
import HandS.Head1
import HandS.Head2
import HandS.HeadEnd
import HandS.HeadHook1
import HandS.HeadHook2
import HandS.HeadHook3
import HandS.HeadHook4
import HandS.HeadWalk
import HandS.Walk
import HandS.Zip
import HandS.TupAny
import HandS.IsInst
import HandS.Wide
import HandS.WideBits
import HandS.Flow
import HandS.Style
import HandS.SortInts
import HandS.Steps
import HandS.SetFor
import HandS.Conv
import PyProof.P3Eq
import HandS.RaiseMore
import PyProof.ReprRoads
import KE.SortKeyHeap
import KE.SortData
import HandS.SortKw
import HandS.Lambda
import KE.IntBitsLaws
import PyProof.ReprLen
import PyProof.FitsInt
import HandS.EndTab
import HandS.NestedK
import PySem.Challenge.RW_treesabreast_k26_whole_finishes
set_option Elab.async false
set_option linter.all false
set_option maxRecDepth 100000
set_option maxHeartbeats 0
/-! the head: the top run once in the kernel, its facts by names -/
namespace TB
open PySem PySem.Spec PyProof.Rows L2
def top (i : Nat) : Stmt := PySem.Challenge.pw_treesabreast_k26_whole_finishes.main.body.getD i (.Pass ⟨0, 0, 0, 0⟩)

abbrev s_wall : Stmt := top 0
def d_wall : He.DefD := ⟨("_wall", none), "_wall", "_wall", defArgs s_wall, defBody s_wall, defScope s_wall, [], []⟩
abbrev sis_number : Stmt := top 10
def dis_number : He.DefD := ⟨("is_number", none), "is_number", "is_number", defArgs sis_number, defBody sis_number, defScope sis_number, [], []⟩
abbrev sis_road : Stmt := top 11
def dis_road : He.DefD := ⟨("is_road", none), "is_road", "is_road", defArgs sis_road, defBody sis_road, defScope sis_road, [], []⟩
abbrev sare_numbers : Stmt := top 12
def dare_numbers : He.DefD := ⟨("are_numbers", none), "are_numbers", "are_numbers", defArgs sare_numbers, defBody sare_numbers, defScope sare_numbers, [], []⟩
abbrev sis_lot : Stmt := top 15
def dis_lot : He.DefD := ⟨("is_lot", none), "is_lot", "is_lot", defArgs sis_lot, defBody sis_lot, defScope sis_lot, [], []⟩
abbrev slot_of : Stmt := top 16
def dlot_of : He.DefD := ⟨("lot_of", none), "lot_of", "lot_of", defArgs slot_of, defBody slot_of, defScope slot_of, [], []⟩
abbrev smask_of : Stmt := top 17
def dmask_of : He.DefD := ⟨("mask_of", none), "mask_of", "mask_of", defArgs smask_of, defBody smask_of, defScope smask_of, [], []⟩
abbrev sall_lots : Stmt := top 18
def dall_lots : He.DefD := ⟨("all_lots", none), "all_lots", "all_lots", defArgs sall_lots, defBody sall_lots, defScope sall_lots, [], []⟩
abbrev sinflow : Stmt := top 19
def dinflow : He.DefD := ⟨("inflow", none), "inflow", "inflow", defArgs sinflow, defBody sinflow, defScope sinflow, [], []⟩
abbrev sled_to : Stmt := top 20
def dled_to : He.DefD := ⟨("led_to", none), "led_to", "led_to", defArgs sled_to, defBody sled_to, defScope sled_to, [], []⟩
abbrev sreached : Stmt := top 21
def dreached : He.DefD := ⟨("reached", none), "reached", "reached", defArgs sreached, defBody sreached, defScope sreached, [], []⟩
abbrev sinflows : Stmt := top 22
def dinflows : He.DefD := ⟨("inflows", none), "inflows", "inflows", defArgs sinflows, defBody sinflows, defScope sinflows, [], []⟩
abbrev sis_count : Stmt := top 24
def dis_count : He.DefD := ⟨("is_count", none), "is_count", "is_count", defArgs sis_count, defBody sis_count, defScope sis_count, [], []⟩
abbrev sis_row : Stmt := top 25
def dis_row : He.DefD := ⟨("is_row", none), "is_row", "is_row", defArgs sis_row, defBody sis_row, defScope sis_row, [], []⟩
abbrev sis_forest : Stmt := top 26
def dis_forest : He.DefD := ⟨("is_forest", none), "is_forest", "is_forest", defArgs sis_forest, defBody sis_forest, defScope sis_forest, [], []⟩
abbrev sis_entry : Stmt := top 27
def dis_entry : He.DefD := ⟨("is_entry", none), "is_entry", "is_entry", defArgs sis_entry, defBody sis_entry, defScope sis_entry, [], []⟩
abbrev sfits : Stmt := top 28
def dfits : He.DefD := ⟨("fits", none), "fits", "fits", defArgs sfits, defBody sfits, defScope sfits, [], []⟩
abbrev ssums_of : Stmt := top 29
def dsums_of : He.DefD := ⟨("sums_of", none), "sums_of", "sums_of", defArgs ssums_of, defBody ssums_of, defScope ssums_of, [], []⟩
abbrev sis_plan : Stmt := top 30
def dis_plan : He.DefD := ⟨("is_plan", none), "is_plan", "is_plan", defArgs sis_plan, defBody sis_plan, defScope sis_plan, [], []⟩
abbrev sspares : Stmt := top 31
def dspares : He.DefD := ⟨("spares", none), "spares", "spares", defArgs sspares, defBody sspares, defScope sspares, [], []⟩
abbrev sis_strained : Stmt := top 32
def dis_strained : He.DefD := ⟨("is_strained", none), "is_strained", "is_strained", defArgs sis_strained, defBody sis_strained, defScope sis_strained, [], []⟩
abbrev snext_road : Stmt := top 33
def dnext_road : He.DefD := ⟨("next_road", none), "next_road", "next_road", defArgs snext_road, defBody snext_road, defScope snext_road, [], []⟩
abbrev sgrown : Stmt := top 34
def dgrown : He.DefD := ⟨("grown", none), "grown", "grown", defArgs sgrown, defBody sgrown, defScope sgrown, [], []⟩
abbrev smost_times : Stmt := top 35
def dmost_times : He.DefD := ⟨("most_times", none), "most_times", "most_times", defArgs smost_times, defBody smost_times, defScope smost_times, [], []⟩
abbrev snarrowed : Stmt := top 36
def dnarrowed : He.DefD := ⟨("narrowed", none), "narrowed", "narrowed", defArgs snarrowed, defBody snarrowed, defScope snarrowed, [], []⟩
abbrev sgrow : Stmt := top 37
def dgrow : He.DefD := ⟨("grow", none), "grow", "grow", defArgs sgrow, defBody sgrow, defScope sgrow, [], []⟩
abbrev sstreams_of : Stmt := top 38
def dstreams_of : He.DefD := ⟨("streams_of", none), "streams_of", "streams_of", defArgs sstreams_of, defBody sstreams_of, defScope sstreams_of, [], []⟩
abbrev splan : Stmt := top 39
def dplan : He.DefD := ⟨("plan", none), "plan", "plan", defArgs splan, defBody splan, defScope splan, [], []⟩
abbrev sis_part : Stmt := top 42
def dis_part : He.DefD := ⟨("is_part", none), "is_part", "is_part", defArgs sis_part, defBody sis_part, defScope sis_part, [], []⟩
abbrev sis_begun : Stmt := top 43
def dis_begun : He.DefD := ⟨("is_begun", none), "is_begun", "is_begun", defArgs sis_begun, defBody sis_begun, defScope sis_begun, [], []⟩
abbrev spieces_of : Stmt := top 44
def dpieces_of : He.DefD := ⟨("pieces_of", none), "pieces_of", "pieces_of", defArgs spieces_of, defBody spieces_of, defScope spieces_of, [], []⟩
abbrev sstreams_left : Stmt := top 45
def dstreams_left : He.DefD := ⟨("streams_left", none), "streams_left", "streams_left", defArgs sstreams_left, defBody sstreams_left, defScope sstreams_left, [], []⟩
abbrev sfinish : Stmt := top 46
def dfinish : He.DefD := ⟨("finish", none), "finish", "finish", defArgs sfinish, defBody sfinish, defScope sfinish, [], []⟩
abbrev sis_part_finished : Stmt := top 47
def dis_part_finished : He.DefD := ⟨("is_part_finished", none), "is_part_finished", "is_part_finished", defArgs sis_part_finished, defBody sis_part_finished, defScope sis_part_finished, [], []⟩
abbrev sis_finish : Stmt := top 48
def dis_finish : He.DefD := ⟨("is_finish", none), "is_finish", "is_finish", defArgs sis_finish, defBody sis_finish, defScope sis_finish, [], []⟩
abbrev sis_message : Stmt := top 52
def dis_message : He.DefD := ⟨("is_message", none), "is_message", "is_message", defArgs sis_message, defBody sis_message, defScope sis_message, [], []⟩
abbrev smeet : Stmt := top 53
def dmeet : He.DefD := ⟨("meet", none), "meet", "meet", defArgs smeet, defBody smeet, defScope smeet, [], []⟩
abbrev s_law_feed : Stmt := top 56
def d_law_feed : He.DefD := ⟨("_law_feed", none), "_law_feed", "_law_feed", defArgs s_law_feed, defBody s_law_feed, defScope s_law_feed, [], []⟩
abbrev s_law_take : Stmt := top 57
def d_law_take : He.DefD := ⟨("_law_take", none), "_law_take", "_law_take", defArgs s_law_take, defBody s_law_take, defScope s_law_take, [], []⟩
abbrev s_law_pick : Stmt := top 58
def d_law_pick : He.DefD := ⟨("_law_pick", none), "_law_pick", "_law_pick", defArgs s_law_pick, defBody s_law_pick, defScope s_law_pick, [], []⟩
abbrev s_law_net : Stmt := top 59
def d_law_net : He.DefD := ⟨("_law_net", none), "_law_net", "_law_net", defArgs s_law_net, defBody s_law_net, defScope s_law_net, [], []⟩
abbrev s_law_lots : Stmt := top 60
def d_law_lots : He.DefD := ⟨("_law_lots", none), "_law_lots", "_law_lots", defArgs s_law_lots, defBody s_law_lots, defScope s_law_lots, [], []⟩
abbrev s_law_enters : Stmt := top 61
def d_law_enters : He.DefD := ⟨("_law_enters", none), "_law_enters", "_law_enters", defArgs s_law_enters, defBody s_law_enters, defScope s_law_enters, [], []⟩
abbrev s_law_flow : Stmt := top 62
def d_law_flow : He.DefD := ⟨("_law_flow", none), "_law_flow", "_law_flow", defArgs s_law_flow, defBody s_law_flow, defScope s_law_flow, [], []⟩
abbrev s_law_led : Stmt := top 63
def d_law_led : He.DefD := ⟨("_law_led", none), "_law_led", "_law_led", defArgs s_law_led, defBody s_law_led, defScope s_law_led, [], []⟩
abbrev s_law_meet : Stmt := top 64
def d_law_meet : He.DefD := ⟨("_law_meet", none), "_law_meet", "_law_meet", defArgs s_law_meet, defBody s_law_meet, defScope s_law_meet, [], []⟩
abbrev s_law_need : Stmt := top 65
def d_law_need : He.DefD := ⟨("_law_need", none), "_law_need", "_law_need", defArgs s_law_need, defBody s_law_need, defScope s_law_need, [], []⟩
abbrev s_law_heards : Stmt := top 66
def d_law_heards : He.DefD := ⟨("_law_heards", none), "_law_heards", "_law_heards", defArgs s_law_heards, defBody s_law_heards, defScope s_law_heards, [], []⟩
abbrev s_law_rows : Stmt := top 67
def d_law_rows : He.DefD := ⟨("_law_rows", none), "_law_rows", "_law_rows", defArgs s_law_rows, defBody s_law_rows, defScope s_law_rows, [], []⟩
abbrev s_law_lot : Stmt := top 68
def d_law_lot : He.DefD := ⟨("_law_lot", none), "_law_lot", "_law_lot", defArgs s_law_lot, defBody s_law_lot, defScope s_law_lot, [], []⟩
abbrev s_law_message : Stmt := top 69
def d_law_message : He.DefD := ⟨("_law_message", none), "_law_message", "_law_message", defArgs s_law_message, defBody s_law_message, defScope s_law_message, [], []⟩
abbrev s_law_news : Stmt := top 70
def d_law_news : He.DefD := ⟨("_law_news", none), "_law_news", "_law_news", defArgs s_law_news, defBody s_law_news, defScope s_law_news, [], []⟩
abbrev s_law_forest : Stmt := top 71
def d_law_forest : He.DefD := ⟨("_law_forest", none), "_law_forest", "_law_forest", defArgs s_law_forest, defBody s_law_forest, defScope s_law_forest, [], []⟩
abbrev s_law_is_row : Stmt := top 72
def d_law_is_row : He.DefD := ⟨("_law_is_row", none), "_law_is_row", "_law_is_row", defArgs s_law_is_row, defBody s_law_is_row, defScope s_law_is_row, [], []⟩
abbrev s_law_is_led : Stmt := top 73
def d_law_is_led : He.DefD := ⟨("_law_is_led", none), "_law_is_led", "_law_is_led", defArgs s_law_is_led, defBody s_law_is_led, defScope s_law_is_led, [], []⟩
abbrev s_law_is_forest : Stmt := top 74
def d_law_is_forest : He.DefD := ⟨("_law_is_forest", none), "_law_is_forest", "_law_is_forest", defArgs s_law_is_forest, defBody s_law_is_forest, defScope s_law_is_forest, [], []⟩
abbrev s_law_is_entry : Stmt := top 75
def d_law_is_entry : He.DefD := ⟨("_law_is_entry", none), "_law_is_entry", "_law_is_entry", defArgs s_law_is_entry, defBody s_law_is_entry, defScope s_law_is_entry, [], []⟩
abbrev s_law_bear : Stmt := top 76
def d_law_bear : He.DefD := ⟨("_law_bear", none), "_law_bear", "_law_bear", defArgs s_law_bear, defBody s_law_bear, defScope s_law_bear, [], []⟩
abbrev s_law_is_plan : Stmt := top 77
def d_law_is_plan : He.DefD := ⟨("_law_is_plan", none), "_law_is_plan", "_law_is_plan", defArgs s_law_is_plan, defBody s_law_is_plan, defScope s_law_is_plan, [], []⟩
abbrev s_law_is_begun_so : Stmt := top 78
def d_law_is_begun_so : He.DefD := ⟨("_law_is_begun_so", none), "_law_is_begun_so", "_law_is_begun_so", defArgs s_law_is_begun_so, defBody s_law_is_begun_so, defScope s_law_is_begun_so, [], []⟩
abbrev s_law_left_rows : Stmt := top 79
def d_law_left_rows : He.DefD := ⟨("_law_left_rows", none), "_law_left_rows", "_law_left_rows", defArgs s_law_left_rows, defBody s_law_left_rows, defScope s_law_left_rows, [], []⟩
abbrev s_law_is_finish : Stmt := top 80
def d_law_is_finish : He.DefD := ⟨("_law_is_finish", none), "_law_is_finish", "_law_is_finish", defArgs s_law_is_finish, defBody s_law_is_finish, defScope s_law_is_finish, [], []⟩
abbrev s_law_begun_of : Stmt := top 81
def d_law_begun_of : He.DefD := ⟨("_law_begun_of", none), "_law_begun_of", "_law_begun_of", defArgs s_law_begun_of, defBody s_law_begun_of, defScope s_law_begun_of, [], []⟩
abbrev s_law_told_right : Stmt := top 82
def d_law_told_right : He.DefD := ⟨("_law_told_right", none), "_law_told_right", "_law_told_right", defArgs s_law_told_right, defBody s_law_told_right, defScope s_law_told_right, [], []⟩
abbrev slaw : Stmt := top 83
def dlaw : He.DefD := ⟨("law", none), "law", "law", defArgs slaw, defBody slaw, defScope slaw, [], []⟩
abbrev sNet___init__ : Stmt := inClass (top 13) 0
def dNet___init__ : He.DefD := ⟨("Net", some "__init__"), "__init__", "Net.__init__", defArgs sNet___init__, defBody sNet___init__, defScope sNet___init__, [], []⟩
abbrev sNet___len__ : Stmt := inClass (top 13) 1
def dNet___len__ : He.DefD := ⟨("Net", some "__len__"), "__len__", "Net.__len__", defArgs sNet___len__, defBody sNet___len__, defScope sNet___len__, [], []⟩
abbrev sNet_roads : Stmt := inClass (top 13) 4
def dNet_roads : He.DefD := ⟨("Net", some "roads"), "roads", "Net.roads", defArgs sNet_roads, defBody sNet_roads, defScope sNet_roads, [], []⟩
abbrev sNews___init__ : Stmt := inClass (top 54) 0
def dNews___init__ : He.DefD := ⟨("News", some "__init__"), "__init__", "News.__init__", defArgs sNews___init__, defBody sNews___init__, defScope sNews___init__, [], []⟩
abbrev sNews_messages : Stmt := inClass (top 54) 2
def dNews_messages : He.DefD := ⟨("News", some "messages"), "messages", "News.messages", defArgs sNews_messages, defBody sNews_messages, defScope sNews_messages, [], []⟩
abbrev sNews_hearing : Stmt := inClass (top 54) 3
def dNews_hearing : He.DefD := ⟨("News", some "hearing"), "hearing", "News.hearing", defArgs sNews_hearing, defBody sNews_hearing, defScope sNews_hearing, [], []⟩
abbrev sNews_need : Stmt := inClass (top 54) 4
def dNews_need : He.DefD := ⟨("News", some "need"), "need", "News.need", defArgs sNews_need, defBody sNews_need, defScope sNews_need, [], []⟩
abbrev sNews_lack : Stmt := inClass (top 54) 6
def dNews_lack : He.DefD := ⟨("News", some "lack"), "lack", "News.lack", defArgs sNews_lack, defBody sNews_lack, defScope sNews_lack, [], []⟩
def fn : List He.DefD := [dis_number, dis_road, dare_numbers, dis_lot, dlot_of, dmask_of, dall_lots, dinflow, dled_to, dreached, dinflows, dis_count, dis_row, dis_forest, dis_entry, dfits, dsums_of, dis_plan, dspares, dis_strained, dnext_road, dgrown, dmost_times, dnarrowed, dgrow, dstreams_of, dplan, dis_part, dis_begun, dpieces_of, dstreams_left, dfinish, dis_part_finished, dis_finish, dis_message, dmeet, d_law_feed, d_law_take, d_law_pick, d_law_net, d_law_lots, d_law_enters, d_law_flow, d_law_led, d_law_meet, d_law_need, d_law_heards, d_law_rows, d_law_lot, d_law_message, d_law_news, d_law_forest, d_law_is_row, d_law_is_led, d_law_is_forest, d_law_is_entry, d_law_bear, d_law_is_plan, d_law_is_begun_so, d_law_left_rows, d_law_is_finish, d_law_begun_of, d_law_told_right, dlaw, dNet___init__, dNet___len__, dNet_roads, dNews___init__, dNews_messages, dNews_hearing, dNews_need, dNews_lack]
def fa : List He.Fa := [.glo "is_number", .glo "is_road", .glo "are_numbers", .glo "is_lot", .glo "lot_of", .glo "mask_of", .glo "all_lots", .glo "inflow", .glo "led_to", .glo "reached", .glo "inflows", .glo "is_count", .glo "is_row", .glo "is_forest", .glo "is_entry", .glo "fits", .glo "sums_of", .glo "is_plan", .glo "spares", .glo "is_strained", .glo "next_road", .glo "grown", .glo "most_times", .glo "narrowed", .glo "grow", .glo "streams_of", .glo "plan", .glo "is_part", .glo "is_begun", .glo "pieces_of", .glo "streams_left", .glo "finish", .glo "is_part_finished", .glo "is_finish", .glo "is_message", .glo "meet", .glo "_law_feed", .glo "_law_take", .glo "_law_pick", .glo "_law_net", .glo "_law_lots", .glo "_law_enters", .glo "_law_flow", .glo "_law_led", .glo "_law_meet", .glo "_law_need", .glo "_law_heards", .glo "_law_rows", .glo "_law_lot", .glo "_law_message", .glo "_law_news", .glo "_law_forest", .glo "_law_is_row", .glo "_law_is_led", .glo "_law_is_forest", .glo "_law_is_entry", .glo "_law_bear", .glo "_law_is_plan", .glo "_law_is_begun_so", .glo "_law_left_rows", .glo "_law_is_finish", .glo "_law_begun_of", .glo "_law_told_right", .glo "law", .glo "Net", .cls "Net", .mkr "Net", .glo "News", .cls "News", .mkr "News", .noat "Net" "places", .noat "Net" "built", .noat "News" "net", .noat "News" "told", .noat "News" "heard", .meth "Net" "__init__", .meth "Net" "__len__", .meth "Net" "roads", .meth "News" "__init__", .meth "News" "messages", .meth "News" "hearing", .meth "News" "need", .meth "News" "lack", .free "len", .free "isinstance", .free "int", .free "bool", .free "tuple", .free "list", .free "all", .free "any", .free "sum", .free "min", .free "max", .free "range", .free "enumerate", .free "zip", .free "sorted", .free "set", .free "repr", .free "abs", .int "MOST_HOUSES" 6, .int "MOST_ROADS" 12, .int "WIDEST" 1000000000, .int "MOST_BEGUN" 6, .int "MOST_MESSAGES" 3, .int "MOST_PIECES" 1000000000000]
def loose0 : List PySem.Str := ["_wall", "is_number", "is_road", "are_numbers", "is_lot", "lot_of", "mask_of", "all_lots", "inflow", "led_to", "reached", "inflows", "is_count", "is_row", "is_forest", "is_entry", "fits", "sums_of", "is_plan", "spares", "is_strained", "next_road", "grown", "most_times", "narrowed", "grow", "streams_of", "plan", "is_part", "is_begun"]
def loose1 : List PySem.Str := ["pieces_of", "streams_left", "finish", "is_part_finished", "is_finish", "is_message", "meet", "_law_feed", "_law_take", "_law_pick", "_law_net", "_law_lots", "_law_enters", "_law_flow", "_law_led", "_law_meet", "_law_need", "_law_heards", "_law_rows", "_law_lot", "_law_message", "_law_news", "_law_forest", "_law_is_row", "_law_is_led", "_law_is_forest", "_law_is_entry", "_law_bear", "_law_is_plan", "_law_is_begun_so"]
def loose2 : List PySem.Str := ["_law_left_rows", "_law_is_finish", "_law_begun_of", "_law_told_right", "NetError", "BadNet", "NoRoad", "BadMessage", "Net", "News", "MOST_HOUSES", "MOST_ROADS", "WIDEST", "MOST_BEGUN", "MOST_MESSAGES", "MOST_PIECES"]
def loose : List PySem.Str := loose0 ++ loose1 ++ loose2
def tf : List He.Defn := [("all_lots", none)]
abbrev Rw : PySem.W.OpenRow := PySem.W.OpenLaw.row PySem.Challenge.rw_treesabreast_k26_whole_finishes
def exq : PySem.W.Frag → Bool := fun _ => true
abbrev hk : PySem.W.Hook := He.hookX 5 fa fn [] tf exq
def ob (s : PySem.W.SharedT) : He.AlX := He.obsX 5 fa fn [] tf exq (HandSHeadRun.getT s)
theorem ob_eq (s : PySem.W.SharedT) : ob s = hk.obs s.abs := He.obsX_eq (HandSHeadRun.getT_eq s)
theorem run (w : World) : HandSHeadRun.RunEq Rw (PySem.W.view Rw.prog [83]) hk ob 6000 loose w := by
  intro os
  kernel_rfl
end TB
set_option Elab.async false
set_option linter.all false
set_option autoImplicit false
set_option maxRecDepth 100000
set_option maxHeartbeats 4000000
/-! the data layer: worlds, data, judgements -/
namespace TB
open PySem PySem.Spec PyProof.Rows L2
abbrev St := L2.St

/-! ### data that stands in a frozen heap -/
mutual
inductive Dq (F : Hp) : V → PyData → Prop
  | non : Dq F .non .none
  | bl (b : Bool) : Dq F (.bl b) (.bool b)
  | int (i : Int) : Dq F (.int i) (.int i)
  | str (x : Str) : Dq F (.str x) (.str x)
  | lst {a : Addr} {xs : List V} {ds : List PyData} : F a = some (.lst xs) → DqAll F xs ds → Dq F (.ref a) (.list ds)
  | tup {a : Addr} {xs : List V} {ds : List PyData} : F a = some (.tup xs) → DqAll F xs ds → Dq F (.ref a) (.tuple ds)
inductive DqAll (F : Hp) : List V → List PyData → Prop
  | nil : DqAll F [] []
  | cons {v : V} {vs : List V} {d : PyData} {ds : List PyData} : Dq F v d → DqAll F vs ds → DqAll F (v :: vs) (d :: ds)
end
section
variable {F F' H : Hp} {K : PySem.W.Frag}
mutual
theorem Dq.mono (e : Same F F') : ∀ {v : V} {d : PyData}, Dq F v d → Dq F' v d
  | _, _, .non => .non
  | _, _, .bl b => .bl b
  | _, _, .int i => .int i
  | _, _, .str x => .str x
  | _, _, .lst h a => .lst (e _ _ h) (DqAll.mono e a)
  | _, _, .tup h a => .tup (e _ _ h) (DqAll.mono e a)
theorem DqAll.mono (e : Same F F') : ∀ {vs : List V} {ds : List PyData}, DqAll F vs ds → DqAll F' vs ds
  | _, _, .nil => .nil
  | _, _, .cons h a => .cons (Dq.mono e h) (DqAll.mono e a)
end
mutual
theorem Dq.dp : ∀ {v : V} {d : PyData}, Dq F v d → Dp K F v d
  | _, _, .non => .non
  | _, _, .bl b => .bl b
  | _, _, .int i => .int i
  | _, _, .str x => .str x
  | _, _, .lst h a => .lst (SqL.of h) (DqAll.dp a)
  | _, _, .tup h a => .tup (SqT.of h) (DqAll.dp a)
theorem DqAll.dp : ∀ {vs : List V} {ds : List PyData}, DqAll F vs ds → DpAll K F vs ds
  | _, _, .nil => .nil
  | _, _, .cons h a => .cons (Dq.dp h) (DqAll.dp a)
end
theorem DqAll.length : ∀ {vs : List V} {ds : List PyData}, DqAll F vs ds → vs.length = ds.length
  | _, _, .nil => rfl
  | _, _, .cons _ a => congrArg (· + 1) a.length
theorem DqAll.get : ∀ {vs : List V} {ds : List PyData} {i : Nat} {d : PyData}, DqAll F vs ds → ds[i]? = some d → ∃ v, vs[i]? = some v ∧ Dq F v d
  | _, _, _, _, .nil, h => by simp at h
  | _, _, 0, _, .cons h _, e => by
    simp at e
    subst e
    exact ⟨_, rfl, h⟩
  | _, _, i + 1, d, .cons _ a, e => by
    obtain ⟨v, h1, h2⟩ := DqAll.get (i := i) (d := d) a (by simpa using e)
    exact ⟨v, by simpa using h1, h2⟩
theorem DqAll.got : ∀ {vs : List V} {ds : List PyData} {i : Nat} {v : V} {d : PyData}, DqAll F vs ds → vs[i]? = some v → ds[i]? = some d → Dq F v d := fun {vs ds i v d} a h1 h2 => by
  obtain ⟨v', h3, h4⟩ := a.get h2
  rw [h1] at h3
  cases h3
  exact h4
theorem DqAll.append : ∀ {vs us : List V} {ds es : List PyData}, DqAll F vs ds → DqAll F us es → DqAll F (vs ++ us) (ds ++ es)
  | _, _, _, _, .nil, s => s
  | _, _, _, _, .cons r t, s => .cons r (DqAll.append t s)
theorem DqAll.snoc {vs : List V} {ds : List PyData} {v : V} {d : PyData} (a : DqAll F vs ds) (h : Dq F v d) : DqAll F (vs ++ [v]) (ds ++ [d]) := a.append (.cons h .nil)
theorem DqAll.take : ∀ {vs : List V} {ds : List PyData} (n : Nat), DqAll F vs ds → DqAll F (vs.take n) (ds.take n)
  | _, _, 0, _ => .nil
  | _, _, _ + 1, .nil => .nil
  | _, _, n + 1, .cons r t => .cons r (DqAll.take n t)
theorem DqAll.drop : ∀ {vs : List V} {ds : List PyData} (n : Nat), DqAll F vs ds → DqAll F (vs.drop n) (ds.drop n)
  | _, _, 0, r => r
  | _, _, _ + 1, .nil => .nil
  | _, _, n + 1, .cons _ t => DqAll.drop n t
theorem DqAll.eraseIdx : ∀ {vs : List V} {ds : List PyData} (n : Nat), DqAll F vs ds → DqAll F (vs.eraseIdx n) (ds.eraseIdx n)
  | _, _, _, .nil => .nil
  | _, _, 0, .cons _ t => t
  | _, _, n + 1, .cons r t => .cons r (DqAll.eraseIdx n t)
theorem Dq.int_eq {v : V} {i : Int} (h : Dq F v (.int i)) : v = .int i := by cases h; rfl
theorem Dq.bl_eq {v : V} {b : Bool} (h : Dq F v (.bool b)) : v = .bl b := by cases h; rfl
theorem Dq.str_eq {v : V} {x : Str} (h : Dq F v (.str x)) : v = .str x := by cases h; rfl
theorem Dq.non_eq {v : V} (h : Dq F v .none) : v = .non := by cases h; rfl
theorem Dq.lst_of {v : V} {ds : List PyData} (h : Dq F v (.list ds)) : ∃ a xs, v = .ref a ∧ F a = some (.lst xs) ∧ DqAll F xs ds := by
  cases h with
  | lst h a => exact ⟨_, _, rfl, h, a⟩
theorem Dq.tup_of {v : V} {ds : List PyData} (h : Dq F v (.tuple ds)) : ∃ a xs, v = .ref a ∧ F a = some (.tup xs) ∧ DqAll F xs ds := by
  cases h with
  | tup h a => exact ⟨_, _, rfl, h, a⟩
theorem DqAll.ints : ∀ {vs : List V} {ns : List Int}, DqAll F vs (ns.map PyData.int) → vs = ns.map V.int
  | _, [], .nil => rfl
  | _, n :: ns, .cons h a => by rw [h.int_eq, DqAll.ints (ns := ns) a]; rfl
theorem DqAll.of_ints : ∀ (ns : List Int), DqAll F (ns.map V.int) (ns.map PyData.int)
  | [] => .nil
  | n :: ns => .cons (.int n) (DqAll.of_ints ns)
theorem DqAll.bls : ∀ {vs : List V} {ns : List Bool}, DqAll F vs (ns.map PyData.bool) → vs = ns.map V.bl
  | _, [], .nil => rfl
  | _, n :: ns, .cons h a => by rw [h.bl_eq, DqAll.bls (ns := ns) a]; rfl
theorem DqAll.strs' : ∀ {vs : List V} {ns : List Str}, DqAll F vs (ns.map PyData.str) → vs = ns.map V.str
  | _, [], .nil => rfl
  | _, n :: ns, .cons h a => by rw [h.str_eq, DqAll.strs' (ns := ns) a]; rfl
end

/-! ### worlds -/
/-- the written part; the table of the one code object that makes a lambda; the lambda's name -/
structure Gb where
  K : PySem.W.Frag
  T : Addr
  q : Str
def FeedOk (a b : Int) : Prop := 0 ≤ a ∧ 0 ≤ b ∧ b < 4294967311
/-- a body's entry: the feed, what is frozen, the heap -/
structure En where
  lf : Option Addr
  F0 : Hp
  H0 : Hp
structure Wl (g : Gb) (lf : Option Addr) (F H : Hp) : Prop where
  same : Same F H
  tab : LamX.TabS H g.T g.q
  fT : F g.T = none
  feed : ∀ l, lf = some l → F l = none ∧ ∃ a b, H l = some (.lst [.int a, .int b]) ∧ FeedOk a b
  /-- there is one table -/
  one : ∀ b ps, H b = some (.tbl ps) → b = g.T
structure Gr (g : Gb) (lf : Option Addr) (F H F' H' : Hp) : Prop where
  ff : Same F F'
  hh : ∀ a o, a ≠ g.T → lf ≠ some a → H a = some o → H' a = some o
  wl : Wl g lf F' H'
  nw : ∀ a o, F a = none → H a = some o → F' a = none
section
variable {g : Gb} {lf : Option Addr} {F H F' H' F2 H2 : Hp}
theorem Wl.tbl (w : Wl g lf F H) : ∃ ps, H g.T = some (.tbl ps) := by
  obtain ⟨ps, h, _⟩ := w.tab
  exact ⟨ps, h⟩
theorem Gr.refl (w : Wl g lf F H) : Gr g lf F H F H := ⟨Same.refl F, fun _ _ _ _ h => h, w, fun _ _ h _ => h⟩
theorem Gr.trans (w : Wl g lf F H) (a : Gr g lf F H F' H') (b : Gr g lf F' H' F2 H2) : Gr g lf F H F2 H2 where
  ff := a.ff.trans b.ff
  hh := fun c o h1 h2 h => b.hh c o h1 h2 (a.hh c o h1 h2 h)
  wl := b.wl
  nw := fun c o h1 h => by
    by_cases hT : c = g.T
    · rw [hT]
      exact b.wl.fT
    · by_cases hl : lf = some c
      · exact (b.wl.feed c hl).1
      · exact b.nw c o (a.nw c o h1 h) (a.hh c o hT hl h)
theorem tabS_upd {P p : Addr} {q : Str} {o : HO} (t : LamX.TabS H P q) (h : H p = none) : LamX.TabS (upd H p o) P q := t.ext fun b u e => by rw [upd_ne (ne_of_none e h)]; exact e
/-- an object that is no table and no code object is written -/
theorem tabS_write {P p : Addr} {q : Str} {o u : HO} (t : LamX.TabS H P q) (h : H p = some u) (h1 : ∀ ps, u ≠ .tbl ps) (h2 : ∀ φ, u ≠ .ext φ) : LamX.TabS (upd H p o) P q := by
  obtain ⟨ps, hP, ht, hc⟩ := t
  refine ⟨ps, ?_, ht, fun pos cv e => ?_⟩
  · rw [upd_ne (ne_of hP h fun z => h1 ps z.symm)]
    exact hP
  · obtain ⟨c, e1, e2⟩ := hc pos cv e
    refine ⟨c, e1, ?_⟩
    rw [upd_ne (ne_of e2 h fun z => h2 _ z.symm)]
    exact e2
theorem Wl.T_ne (w : Wl g lf F H) {p : Addr} (h : H p = none) : p ≠ g.T := fun e => by
  obtain ⟨ps, hT⟩ := w.tbl
  rw [e, hT] at h
  cases h
theorem Wl.lf_ne (w : Wl g lf F H) {p : Addr} (h : H p = none) : lf ≠ some p := fun e => by
  obtain ⟨_, a, b, h', _⟩ := w.feed p e
  rw [h'] at h
  cases h
theorem Wl.F_none (w : Wl g lf F H) {p : Addr} (h : H p = none) : F p = none := w.same.free h
/-- a new object, frozen -/
theorem one_upd {T p : Addr} {o : HO} (w : ∀ b ps, H b = some (.tbl ps) → b = T) (ho : ∀ ps, o ≠ .tbl ps) : ∀ b ps, upd H p o b = some (.tbl ps) → b = T := fun b ps e => by
  by_cases hb : b = p
  · rw [hb, upd_same] at e
    exact absurd (Option.some.inj e) (ho ps)
  · rw [upd_ne hb] at e
    exact w b ps e
theorem Gr.new (w : Wl g lf F H) {p : Addr} {o : HO} (h : H p = none) (ho : ∀ ps, o ≠ .tbl ps := by intro _ z; cases z) : Gr g lf F H (upd F p o) (upd H p o) where
  ff := fun b u e => by rw [upd_ne (ne_of_none e (w.F_none h))]; exact e
  hh := fun b u _ _ e => by rw [upd_ne (ne_of_none e h)]; exact e
  nw := fun b u h1 h2 => by rw [upd_ne (ne_of_none h2 h)]; exact h1
  wl := ⟨fun b u e => by
      by_cases hb : b = p
      · rw [hb, upd_same] at e ⊢
        exact e
      · rw [upd_ne hb] at e ⊢
        exact w.same b u e, tabS_upd w.tab h, by rw [upd_ne (w.T_ne h).symm]; exact w.fT, fun l hl => by
      obtain ⟨f1, a, b, h1, h2⟩ := w.feed l hl
      have ne : l ≠ p := ne_of_none h1 h
      exact ⟨by rw [upd_ne ne]; exact f1, a, b, by rw [upd_ne ne]; exact h1, h2⟩, one_upd w.one ho⟩
/-- a new object, not frozen -/
theorem Gr.newH (w : Wl g lf F H) {p : Addr} {o : HO} (h : H p = none) (ho : ∀ ps, o ≠ .tbl ps := by intro _ z; cases z) : Gr g lf F H F (upd H p o) where
  ff := Same.refl F
  hh := fun b u _ _ e => by rw [upd_ne (ne_of_none e h)]; exact e
  nw := fun b u h1 h2 => h1
  wl := ⟨fun b u e => by rw [upd_ne (ne_of_none (w.same b u e) h)]; exact w.same b u e, tabS_upd w.tab h, w.fT, fun l hl => by
      obtain ⟨f1, a, b, h1, h2⟩ := w.feed l hl
      exact ⟨f1, a, b, by rw [upd_ne (ne_of_none h1 h)]; exact h1, h2⟩, one_upd w.one ho⟩
/-- an object of H that is not frozen becomes so -/
theorem Wl.freeze (w : Wl g lf F H) {p : Addr} {o : HO} (h : H p = some o) (hf : F p = none) (h1 : p ≠ g.T) (h2 : lf ≠ some p) : Wl g lf (upd F p o) H := by
  refine ⟨fun b u e => ?_, w.tab, by rw [upd_ne (fun z => h1 z.symm)]; exact w.fT, fun l hl => ?_, w.one⟩
  · by_cases hb : b = p
    · rw [hb, upd_same] at e
      cases e
      rw [hb]
      exact h
    · rw [upd_ne hb] at e
      exact w.same b u e
  · obtain ⟨f1, r⟩ := w.feed l hl
    exact ⟨by rw [upd_ne (fun z => h2 (by rw [← z]; exact hl))]; exact f1, r⟩
theorem same_upd' {F : Hp} {p : Addr} {o : HO} (h : F p = none) : Same F (upd F p o) := fun b u e => by rw [upd_ne (ne_of_none e h)]; exact e
/-- a list that is not frozen is written -/
theorem Wl.write (w : Wl g lf F H) {p : Addr} {xs : List V} {o : HO} (h : H p = some (.lst xs)) (hf : F p = none) (h2 : lf ≠ some p) (ho : ∀ ps, o ≠ .tbl ps := by intro _ z; cases z) : Wl g lf F (upd H p o) := by
  refine ⟨fun b u e => ?_, tabS_write w.tab h (fun _ z => nomatch z) (fun _ z => nomatch z), w.fT, fun l hl => ?_, one_upd w.one ho⟩
  · rw [upd_ne (ne_of_none e hf)]
    exact w.same b u e
  · obtain ⟨f1, a, b, e, r⟩ := w.feed l hl
    exact ⟨f1, a, b, by rw [upd_ne (fun z => h2 (by rw [← z]; exact hl))]; exact e, r⟩
end

/-! ### what a slot holds -/
inductive Dx where
  | d (x : PyData)
  /-- a list of the body's own that it may change -/
  | own (xs : List PyData)
  /-- the feed -/
  | feed
  | net (h : Nat) (rs : List PyData)
  | news (h : Nat) (rs ms hs : List PyData)
abbrev Rho := List (Option Dx)
def intsTo (n : Nat) : List PyData := (List.range n).map fun (i : Nat) => .int (i : Int)
def NetAt (K : PySem.W.Frag) (F : Hp) (a : Addr) (h : Nat) (rs : List PyData) : Prop :=
  ∃ dx v1 v2, F a = some (.ins (He.ga K "Net") dx [("places", v1), ("built", v2)]) ∧ Dq F v1 (.list (intsTo h)) ∧ Dq F v2 (.list rs)
def NewsAt (K : PySem.W.Frag) (F : Hp) (a : Addr) (h : Nat) (rs ms hs : List PyData) : Prop :=
  ∃ dx n v1 v2, F a = some (.ins (He.ga K "News") dx [("net", .ref n), ("told", v1), ("heard", v2)]) ∧ NetAt K F n h rs ∧ Dq F v1 (.list ms) ∧ Dq F v2 (.list hs)
theorem NetAt.mono {K : PySem.W.Frag} {F F' : Hp} {a : Addr} {h : Nat} {rs : List PyData} (e : Same F F') (x : NetAt K F a h rs) : NetAt K F' a h rs := by
  obtain ⟨dx, v1, v2, h1, h2, h3⟩ := x
  exact ⟨dx, v1, v2, e _ _ h1, h2.mono e, h3.mono e⟩
theorem NewsAt.mono {K : PySem.W.Frag} {F F' : Hp} {a : Addr} {h : Nat} {rs ms hs : List PyData} (e : Same F F') (x : NewsAt K F a h rs ms hs) : NewsAt K F' a h rs ms hs := by
  obtain ⟨dx, n, v1, v2, h1, h2, h3, h4⟩ := x
  exact ⟨dx, n, v1, v2, e _ _ h1, h2.mono e, h3.mono e, h4.mono e⟩
/-- frozen things -/
def Fx (K : PySem.W.Frag) (F : Hp) (v : V) : Dx → Prop
  | .d x => Dq F v x
  | .net h rs => ∃ a, v = .ref a ∧ NetAt K F a h rs
  | .news h rs ms hs => ∃ a, v = .ref a ∧ NewsAt K F a h rs ms hs
  | _ => False
def Dx.fz : Dx → Bool
  | .d _ => true
  | .net _ _ => true
  | .news _ _ _ _ => true
  | _ => false
/-- an own list's address -/
structure OwnAt (g : Gb) (e : En) (F H : Hp) (l : Addr) (vs : List V) : Prop where
  f : F l = none
  h0 : e.H0 l = none
  T : l ≠ g.T
  lf : e.lf ≠ some l
  h : H l = some (.lst vs)
def Rx (g : Gb) (e : En) (F H : Hp) (v : V) : Dx → Prop
  | .own ds => ∃ l vs, v = .ref l ∧ OwnAt g e F H l vs ∧ DqAll F vs ds
  | .feed => ∃ l, v = .ref l ∧ e.lf = some l
  | x => Fx g.K F v x
section
variable {g : Gb} {e : En} {F H F' H' : Hp} {v : V} {x : Dx}
theorem Fx.mono {K : PySem.W.Frag} (s : Same F F') (h : Fx K F v x) : Fx K F' v x := by
  cases x with
  | d x => exact Dq.mono s h
  | net n rs => obtain ⟨a, e, q⟩ := h; exact ⟨a, e, q.mono s⟩
  | news n rs ms hs => obtain ⟨a, e, q⟩ := h; exact ⟨a, e, q.mono s⟩
  | own _ => exact h
  | feed => exact h
theorem Rx.fx (hz : x.fz = true) (h : Rx g e F H v x) : Fx g.K F v x := by
  cases x with
  | d x => exact h
  | net n rs => exact h
  | news n rs ms hs => exact h
  | own _ => cases hz
  | feed => cases hz
theorem Fx.rx (hz : x.fz = true) (h : Fx g.K F v x) : Rx g e F H v x := by
  cases x with
  | d x => exact h
  | net n rs => exact h
  | news n rs ms hs => exact h
  | own _ => cases hz
  | feed => cases hz
theorem Fx.fz {K : PySem.W.Frag} (h : Fx K F v x) : x.fz = true := by
  cases x with
  | d x => rfl
  | net n rs => rfl
  | news n rs ms hs => rfl
  | own _ => exact h.elim
  | feed => exact h.elim
theorem OwnAt.mono {l : Addr} {vs : List V} (o : OwnAt g e F H l vs) (r : Gr g e.lf F H F' H') : OwnAt g e F' H' l vs :=
  ⟨r.nw l _ o.f o.h, o.h0, o.T, o.lf, r.hh l _ o.T o.lf o.h⟩
theorem Rx.mono (r : Gr g e.lf F H F' H') (h : Rx g e F H v x) : Rx g e F' H' v x := by
  cases x with
  | d x => exact Dq.mono r.ff h
  | net n rs => exact Fx.mono (x := .net n rs) r.ff h
  | news n rs ms hs => exact Fx.mono (x := .news n rs ms hs) r.ff h
  | own ds =>
    obtain ⟨l, vs, e1, o, q⟩ := h
    exact ⟨l, vs, e1, o.mono r, q.mono r.ff⟩
  | feed => exact h
end
structure Ew (g : Gb) (e : En) (σ : St) (F H : Hp) (ρ : Rho) : Prop where
  gr : Gr g e.lf e.F0 e.H0 F H
  w0 : Wl g e.lf e.F0 e.H0
  ln : σ.length = ρ.length
  bd : ∀ (i : Nat) (x : Dx), ρ[i]? = some (some x) → ∃ v, σ[i]? = some (some v) ∧ Rx g e F H v x
  dj : ∀ (i j : Nat) (xs ys : List PyData), i ≠ j → ρ[i]? = some (some (.own xs)) → ρ[j]? = some (some (.own ys)) → σ[i]? ≠ σ[j]?
section
variable {g : Gb} {e : En} {σ : St} {F H F' H' : Hp} {ρ : Rho}
theorem Ew.wl (E : Ew g e σ F H ρ) : Wl g e.lf F H := E.gr.wl
theorem Ew.grow (E : Ew g e σ F H ρ) (r : Gr g e.lf F H F' H') : Ew g e σ F' H' ρ :=
  ⟨E.gr.trans E.w0 r, E.w0, E.ln, fun i x h => by
    obtain ⟨v, h1, h2⟩ := E.bd i x h
    exact ⟨v, h1, h2.mono r⟩, E.dj⟩
/-- a slot is set to a frozen thing (or the feed) -/
theorem Ew.set (E : Ew g e σ F H ρ) {i : Nat} {v : V} {x : Dx} (hx : Rx g e F H v x) (hz : ∀ xs, x ≠ .own xs) : Ew g e (σ.set i (some v)) F H (ρ.set i (some x)) := by
  refine ⟨E.gr, E.w0, by rw [List.length_set, List.length_set]; exact E.ln, fun j y h => ?_, fun j k xs ys hjk h1 h2 => ?_⟩
  · by_cases hj : i = j
    · subst hj
      have hi : i < ρ.length := by
        have h3 := (List.getElem?_eq_some_iff.mp h).1
        rwa [List.length_set] at h3
      rw [List.getElem?_set_self hi] at h
      cases h
      exact ⟨v, by rw [List.getElem?_set_self (by rw [E.ln]; exact hi)], hx⟩
    · rw [List.getElem?_set_ne hj] at h ⊢
      exact E.bd j y h
  · have key : ∀ (m : Nat) (zs : List PyData), (ρ.set i (some x))[m]? = some (some (.own zs)) → i ≠ m ∧ ρ[m]? = some (some (.own zs)) := fun m zs h => by
      by_cases hm : i = m
      · subst hm
        have hi : i < ρ.length := by
          have h3 := (List.getElem?_eq_some_iff.mp h).1
          rwa [List.length_set] at h3
        rw [List.getElem?_set_self hi] at h
        exact absurd (Option.some.inj (Option.some.inj h)) (hz zs)
      · rw [List.getElem?_set_ne hm] at h
        exact ⟨hm, h⟩
    obtain ⟨n1, q1⟩ := key j xs h1
    obtain ⟨n2, q2⟩ := key k ys h2
    rw [List.getElem?_set_ne n1, List.getElem?_set_ne n2]
    exact E.dj j k xs ys hjk q1 q2
/-- a slot is set to a list that no slot holds -/
theorem Ew.setOwn (E : Ew g e σ F H ρ) {i : Nat} {l : Addr} {vs : List V} {ds : List PyData} (o : OwnAt g e F H l vs) (q : DqAll F vs ds) (hn : ∀ (j : Nat) (ys : List PyData), j ≠ i → ρ[j]? = some (some (.own ys)) → σ[j]? ≠ some (some (.ref l))) :
    Ew g e (σ.set i (some (.ref l))) F H (ρ.set i (some (.own ds))) := by
  refine ⟨E.gr, E.w0, by rw [List.length_set, List.length_set]; exact E.ln, fun j y h => ?_, fun j k xs ys hjk h1 h2 => ?_⟩
  · by_cases hj : i = j
    · subst hj
      have hi : i < ρ.length := by
        have h3 := (List.getElem?_eq_some_iff.mp h).1
        rwa [List.length_set] at h3
      rw [List.getElem?_set_self hi] at h
      cases h
      exact ⟨.ref l, by rw [List.getElem?_set_self (by rw [E.ln]; exact hi)], ⟨l, vs, rfl, o, q⟩⟩
    · rw [List.getElem?_set_ne hj] at h ⊢
      exact E.bd j y h
  · have lt : ∀ (m : Nat) (zs : List PyData), (ρ.set i (some (.own ds)))[m]? = some (some (.own zs)) → m < ρ.length := fun m zs h => by
      have h3 := (List.getElem?_eq_some_iff.mp h).1
      rwa [List.length_set] at h3
    by_cases hj : i = j
    · subst hj
      have hk : i ≠ k := hjk
      rw [List.getElem?_set_ne hk] at h2
      rw [List.getElem?_set_self (by rw [E.ln]; exact lt _ _ h1), List.getElem?_set_ne hk]
      exact fun z => hn k ys (Ne.symm hk) h2 z.symm
    · rw [List.getElem?_set_ne hj] at h1
      by_cases hk : i = k
      · subst hk
        rw [List.getElem?_set_self (by rw [E.ln]; exact lt _ _ h2), List.getElem?_set_ne hj]
        exact hn j xs (fun z => hj z.symm) h1
      · rw [List.getElem?_set_ne hk] at h2
        rw [List.getElem?_set_ne hj, List.getElem?_set_ne hk]
        exact E.dj j k xs ys hjk h1 h2
/-- what is known of slots is forgotten -/
theorem Ew.weak (E : Ew g e σ F H ρ) {ρ' : Rho} (hl : ρ'.length = ρ.length) (h : ∀ (i : Nat) x, ρ'[i]? = some (some x) → ρ[i]? = some (some x)) : Ew g e σ F H ρ' :=
  ⟨E.gr, E.w0, by rw [hl]; exact E.ln, fun i x q => E.bd i x (h i x q), fun i j xs ys n h1 h2 => E.dj i j xs ys n (h i _ h1) (h j _ h2)⟩
/-- an own list becomes frozen -/
theorem Ew.freeze (E : Ew g e σ F H ρ) {i : Nat} {ds : List PyData} (h : ρ[i]? = some (some (.own ds))) : ∃ F', Same F F' ∧ Ew g e σ F' H (ρ.set i (some (.d (.list ds)))) := by
  obtain ⟨v, hv, l, vs, e1, o, q⟩ := E.bd i _ h
  subst e1
  have sm : Same F (upd F l (.lst vs)) := same_upd' o.f
  have wl : Wl g e.lf (upd F l (.lst vs)) H := E.wl.freeze o.h o.f o.T o.lf
  have hi : i < ρ.length := (List.getElem?_eq_some_iff.mp h).1
  have nl : ∀ (j : Nat) (ys : List PyData), j ≠ i → ρ[j]? = some (some (.own ys)) → σ[j]? ≠ some (some (.ref l)) := fun j ys hj h2 z => E.dj j i ys ds hj h2 h (z.trans hv.symm)
  refine ⟨_, sm, ⟨⟨E.gr.ff.trans sm, E.gr.hh, wl, fun a u h1 h2 => ?_⟩, E.w0, by rw [List.length_set]; exact E.ln, fun j y hy => ?_, fun j k xs ys hjk h1 h2 => ?_⟩⟩
  · rw [upd_ne (ne_of_none h2 o.h0)]
    exact E.gr.nw a u h1 h2
  · by_cases hj : i = j
    · subst hj
      rw [List.getElem?_set_self hi] at hy
      cases hy
      exact ⟨.ref l, hv, Dq.lst upd_same (q.mono sm)⟩
    · rw [List.getElem?_set_ne hj] at hy
      obtain ⟨u, hu, r⟩ := E.bd j y hy
      refine ⟨u, hu, ?_⟩
      cases y with
      | d x => exact Dq.mono sm r
      | net n rs => exact Fx.mono (x := .net n rs) sm r
      | news n rs ms hs => exact Fx.mono (x := .news n rs ms hs) sm r
      | feed => exact r
      | own es =>
        obtain ⟨l2, vs2, e2, o2, q2⟩ := r
        subst e2
        have ne : l2 ≠ l := fun z => nl j es (Ne.symm hj) hy (by rw [hu, z])
        exact ⟨l2, vs2, rfl, ⟨by rw [upd_ne ne]; exact o2.f, o2.h0, o2.T, o2.lf, o2.h⟩, q2.mono sm⟩
  · have key : ∀ (m : Nat) (zs : List PyData), (ρ.set i (some (.d (.list ds))))[m]? = some (some (.own zs)) → ρ[m]? = some (some (.own zs)) := fun m zs h => by
      by_cases hm : i = m
      · subst hm
        rw [List.getElem?_set_self hi] at h
        cases h
      · rw [List.getElem?_set_ne hm] at h
        exact h
    exact E.dj j k xs ys hjk (key j xs h1) (key k ys h2)
/-- an own list is written -/
theorem Ew.write (E : Ew g e σ F H ρ) {i : Nat} {ds es : List PyData} {l : Addr} {vs us : List V} (h : ρ[i]? = some (some (.own ds))) (hv : σ[i]? = some (some (.ref l))) (hl : H l = some (.lst vs)) (q : DqAll F us es) :
    Ew g e σ F (upd H l (.lst us)) (ρ.set i (some (.own es))) := by
  obtain ⟨v, hv', l', vs', e1, o, _⟩ := E.bd i _ h
  rw [hv] at hv'
  cases hv'
  cases e1
  have hi : i < ρ.length := (List.getElem?_eq_some_iff.mp h).1
  have nl : ∀ (j : Nat) (ys : List PyData), j ≠ i → ρ[j]? = some (some (.own ys)) → σ[j]? ≠ some (some (.ref l)) := fun j ys hj h2 z => E.dj j i ys ds hj h2 h (z.trans hv.symm)
  have wl : Wl g e.lf F (upd H l (.lst us)) := E.wl.write o.h o.f o.lf
  refine ⟨⟨E.gr.ff, fun a u h1 h2 h3 => ?_, wl, E.gr.nw⟩, E.w0, by rw [List.length_set]; exact E.ln, fun j y hy => ?_, fun j k xs ys hjk h1 h2 => ?_⟩
  · rw [upd_ne (ne_of_none h3 o.h0)]
    exact E.gr.hh a u h1 h2 h3
  · by_cases hj : i = j
    · subst hj
      rw [List.getElem?_set_self hi] at hy
      cases hy
      exact ⟨.ref l, hv, l, us, rfl, ⟨o.f, o.h0, o.T, o.lf, upd_same⟩, q⟩
    · rw [List.getElem?_set_ne hj] at hy
      obtain ⟨u, hu, r⟩ := E.bd j y hy
      refine ⟨u, hu, ?_⟩
      cases y with
      | d x => exact r
      | net n rs => exact r
      | news n rs ms hs => exact r
      | feed => exact r
      | own es2 =>
        obtain ⟨l2, vs2, e2, o2, q2⟩ := r
        subst e2
        have ne : l2 ≠ l := fun z => nl j es2 (Ne.symm hj) hy (by rw [hu, z])
        exact ⟨l2, vs2, rfl, ⟨o2.f, o2.h0, o2.T, o2.lf, by rw [upd_ne ne]; exact o2.h⟩, q2⟩
  · have key : ∀ (m : Nat) (zs : List PyData), (ρ.set i (some (.own es)))[m]? = some (some (.own zs)) → ∃ ws, ρ[m]? = some (some (.own ws)) := fun m zs h' => by
      by_cases hm : i = m
      · subst hm
        exact ⟨ds, h⟩
      · rw [List.getElem?_set_ne hm] at h'
        exact ⟨zs, h'⟩
    obtain ⟨w1, q1⟩ := key j xs h1
    obtain ⟨w2, q2⟩ := key k ys h2
    exact E.dj j k w1 w2 hjk q1 q2
end
end TB
set_option Elab.async false
set_option linter.all false
set_option autoImplicit false
set_option maxRecDepth 100000
set_option maxHeartbeats 4000000
/-! the data layer: judgements, expressions, statements -/
namespace TB
open PySem PySem.Spec PyProof.Rows L2

/-- an expression's reading evaluates, in slots of which ρ is known, to something of which P holds -/
def EvP (g : Gb) (te : TE) (ρ : Rho) (P : Dx → Prop) : Prop := ∀ (e : En) (σ : St) (F H : Hp), Ew g e σ F H ρ → ∀ Q : VK, (∀ v F' H' x, Gr g e.lf F H F' H' → Rx g e F' H' v x → P x → Q v H') → te σ H Q
def EvT (g : Gb) (tt : TT) (ρ : Rho) (P : Bool → Prop) : Prop := ∀ (e : En) (σ : St) (F H : Hp), Ew g e σ F H ρ → ∀ Q : Bool → Hp → Prop, (∀ b F' H', Gr g e.lf F H F' H' → P b → Q b H') → tt σ H Q
inductive RxAll (g : Gb) (e : En) (F H : Hp) : List V → List Dx → Prop
  | nil : RxAll g e F H [] []
  | cons {v : V} {vs : List V} {x : Dx} {xs : List Dx} : Rx g e F H v x → RxAll g e F H vs xs → RxAll g e F H (v :: vs) (x :: xs)
def EvA (g : Gb) (ta : TA) (ρ : Rho) (P : List Dx → Prop) : Prop := ∀ (e : En) (σ : St) (F H : Hp), Ew g e σ F H ρ → ∀ Q : List V → Hp → Prop, (∀ vs F' H' xs, Gr g e.lf F H F' H' → RxAll g e F' H' vs xs → P xs → Q vs H') → ta σ H Q
abbrev Ev (g : Gb) (te : TE) (ρ : Rho) (x : Dx) : Prop := EvP g te ρ (fun y => y = x)
abbrev EvB (g : Gb) (tt : TT) (ρ : Rho) (b : Bool) : Prop := EvT g tt ρ (fun y => y = b)
/-- a target is set -/
def TgP (g : Gb) (tg : TG) (ρ : Rho) (x : Dx) (js : List Nat) (ρ' : Rho) : Prop := ∀ (e : En) (σ : St) (F H : Hp) (v : V), Ew g e σ F H ρ → Rx g e F H v x → ∀ Q : St → Hp → Prop, (∀ σ', Ew g e σ' F H ρ' → σ'.length = σ.length → (∀ i, i ∉ js → σ'[i]? = σ[i]?) → Q σ' H) → tg v σ H Q
/-- what is walked gives these items, one a turn, while what is frozen stays -/
def WalkD (g : Gb) (lf : Option Addr) (F1 : Hp) (J : It) (ds : List PyData) : Prop := ∃ G Y, Walk J ds.length G Y ∧ (∀ F2 H2, Same F1 F2 → Same F2 H2 → G H2) ∧
  ∀ (i : Nat) (F2 H2 : Hp) (x : V) (H3 : Hp) (d : PyData), Wl g lf F2 H2 → Same F1 F2 → ds[i]? = some d → Y i H2 x H3 → ∃ F3, Gr g lf F2 H2 F3 H3 ∧ Dq F3 x d
def ItP (g : Gb) (wi : TI) (ρ : Rho) (P : List PyData → Prop) : Prop := ∀ (e : En) (σ : St) (F H : Hp), Ew g e σ F H ρ → ∀ R : It → Hp → Prop, (∀ J F1 H1 ds, Gr g e.lf F H F1 H1 → P ds → WalkD g e.lf F1 J ds → R J H1) → wi σ H R
/-- a statement's ends -/
structure Po where
  nx : Rho → Prop
  rt : Dx → Prop := fun _ => False
  bk : Rho → Prop := fun _ => False
  ct : Rho → Prop := fun _ => False
structure Wants (g : Gb) (e : En) (F : Hp) (po : Po) (D : Ends) : Prop where
  nx : ∀ σ' F' H' ρ', Same F F' → Ew g e σ' F' H' ρ' → po.nx ρ' → D.nx σ' H'
  rt : ∀ v F' H' x, Gr g e.lf e.F0 e.H0 F' H' → Fx g.K F' v x → po.rt x → D.rt v H'
  bk : ∀ σ' F' H' ρ', Same F F' → Ew g e σ' F' H' ρ' → po.bk ρ' → D.bk σ' H'
  ct : ∀ σ' F' H' ρ', Same F F' → Ew g e σ' F' H' ρ' → po.ct ρ' → D.ct σ' H'
def StP (g : Gb) (ts : TS) (ρ : Rho) (po : Po) : Prop := ∀ (e : En) (σ : St) (F H : Hp) (D : Ends), Ew g e σ F H ρ → Wants g e F po D → ts D σ H

section
variable {g : Gb} {ρ ρ' : Rho} {te ta tb : TE} {tt tu : TT} {P P' : Dx → Prop} {x y z : Dx}
theorem Gr.step {e : En} {σ : St} {F H F' H' F2 H2 : Hp} (E : Ew g e σ F H ρ) (a : Gr g e.lf F H F' H') (b : Gr g e.lf F' H' F2 H2) : Gr g e.lf F H F2 H2 := a.trans E.wl b
theorem EvP.imp (h : EvP g te ρ P) (k : ∀ x, P x → P' x) : EvP g te ρ P' := fun e σ F H E Q q => h e σ F H E Q fun v F' H' x r rx p => q v F' H' x r rx (k x p)
theorem EvT.imp {P P' : Bool → Prop} (h : EvT g tt ρ P) (k : ∀ x, P x → P' x) : EvT g tt ρ P' := fun e σ F H E Q q => h e σ F H E Q fun b F' H' r p => q b F' H' r (k b p)
theorem Ev.is (h : Ev g te ρ x) (e : x = y) : Ev g te ρ y := e ▸ h
theorem EvB.is {a b : Bool} (h : EvB g tt ρ a) (e : a = b) : EvB g tt ρ b := e ▸ h
theorem RxAll.mono {e : En} {F H F' H' : Hp} (r : Gr g e.lf F H F' H') : ∀ {vs : List V} {xs : List Dx}, RxAll g e F H vs xs → RxAll g e F' H' vs xs
  | _, _, .nil => .nil
  | _, _, .cons h a => .cons (h.mono r) (RxAll.mono r a)
theorem rx_d {e : En} {F H : Hp} {v : V} {d : PyData} (h : Dq F v d) : Rx g e F H v (.d d) := h
/-! ### atoms -/
theorem ev_var {i : Nat} (h : ρ[i]? = some (some x)) : Ev g (tVar i) ρ x := fun e σ F H E Q q => by
  obtain ⟨v, h1, h2⟩ := E.bd i x h
  exact ⟨v, h1, q v F H x (Gr.refl E.wl) h2 rfl⟩
theorem ev_int {i : Int} : Ev g (tC (.int i)) ρ (.d (.int i)) := fun e σ F H E Q q => q _ F H _ (Gr.refl E.wl) (rx_d (Dq.int i)) rfl
theorem ev_bl {b : Bool} : Ev g (tC (.bl b)) ρ (.d (.bool b)) := fun e σ F H E Q q => q _ F H _ (Gr.refl E.wl) (rx_d (Dq.bl b)) rfl
theorem ev_str {s : Str} : Ev g (tC (.str s)) ρ (.d (.str s)) := fun e σ F H E Q q => q _ F H _ (Gr.refl E.wl) (rx_d (Dq.str s)) rfl
theorem ev_non : Ev g (tC .non) ρ (.d .none) := fun e σ F H E Q q => q _ F H _ (Gr.refl E.wl) (rx_d Dq.non) rfl
/-- the value a scalar data is -/
def scV : PyData → Option V
  | .none => some .non
  | .bool b => some (.bl b)
  | .int i => some (.int i)
  | .str s => some (.str s)
  | _ => none
theorem Dq.sc {F : Hp} {v w : V} {d : PyData} (h : Dq F v d) (e : scV d = some w) : v = w := by
  cases h <;> first | exact Option.some.inj e | cases e
theorem Dq.of_sc {F : Hp} {w : V} {d : PyData} (e : scV d = some w) : Dq F w d := by
  cases d with
  | none => cases e; exact .non
  | bool b => cases e; exact .bl b
  | int i => cases e; exact .int i
  | str s => cases e; exact .str s
  | _ => cases e
theorem rx_sc {e : En} {F H : Hp} {w : V} {d : PyData} (h : scV d = some w) : Rx g e F H w (.d d) := Dq.of_sc h

/-! ### two scalars -/
/-- a rule for two values -/
def R2P (r : R2) (x y : V) (P : Dx → Prop) : Prop := ∀ (g : Gb) (e : En) (F H : Hp) (Q : VK), Wl g e.lf F H → (∀ v F' H' z, Gr g e.lf F H F' H' → Rx g e F' H' v z → P z → Q v H') → r x y H Q
theorem ev_op2 {r : R2} {Pa Pb : Dx → Prop} (ha : EvP g ta ρ Pa) (hb : EvP g tb ρ Pb) (hr : ∀ (e : En) (σ : St) (F H : Hp) (v w : V) (a b : Dx), Ew g e σ F H ρ → Rx g e F H v a → Rx g e F H w b → Pa a → Pb b → ∀ Q : VK, (∀ u F' H' z, Gr g e.lf F H F' H' → Rx g e F' H' u z → P z → Q u H') → r v w H Q) :
    EvP g (tOp r ta tb) ρ P := fun e σ F H E Q q =>
  ha e σ F H E _ fun v F1 H1 a r1 x1 p1 => hb e σ F1 H1 (E.grow r1) _ fun w F2 H2 b r2 x2 p2 =>
    hr e σ F2 H2 v w a b ((E.grow r1).grow r2) (x1.mono r2) x2 p1 p2 Q fun u F3 H3 z r3 x3 p3 => q u F3 H3 z (r1.step E (r2.step (E.grow r1) r3)) x3 p3
theorem ev_un2 {r : V → Hp → VK → Prop} {Pa : Dx → Prop} (ha : EvP g ta ρ Pa) (hr : ∀ (e : En) (σ : St) (F H : Hp) (v : V) (a : Dx), Ew g e σ F H ρ → Rx g e F H v a → Pa a → ∀ Q : VK, (∀ u F' H' z, Gr g e.lf F H F' H' → Rx g e F' H' u z → P z → Q u H') → r v H Q) :
    EvP g (tUn r ta) ρ P := fun e σ F H E Q q =>
  ha e σ F H E _ fun v F1 H1 a r1 x1 p1 => hr e σ F1 H1 v a (E.grow r1) x1 p1 Q fun u F3 H3 z r3 x3 p3 => q u F3 H3 z (r1.step E r3) x3 p3
/-- two ints, a scalar out -/
theorem evp_I0 {k : Int → Int → V} {f : Int → Int → PyData} {Pa Pb : Int → Prop} (ha : EvP g ta ρ (fun x => ∃ i, x = .d (.int i) ∧ Pa i)) (hb : EvP g tb ρ (fun x => ∃ i, x = .d (.int i) ∧ Pb i)) (hk : ∀ i j, Pa i → Pb j → scV (f i j) = some (k i j) ∧ P (.d (f i j))) :
    EvP g (tOp (rI0 k) ta tb) ρ P := ev_op2 ha hb fun e σ F H v w a b E xa xb pa pb Q q => by
  obtain ⟨i, rfl, pi⟩ := pa
  obtain ⟨j, rfl, pj⟩ := pb
  obtain ⟨h1, h2⟩ := hk i j pi pj
  exact ⟨i, j, Dq.int_eq xa, Dq.int_eq xb, q _ F H _ (Gr.refl E.wl) (rx_sc h1) h2⟩
theorem evp_I {C : Int → Int → Prop} {k : Int → Int → V} {f : Int → Int → PyData} {Pa Pb : Int → Prop} (ha : EvP g ta ρ (fun x => ∃ i, x = .d (.int i) ∧ Pa i)) (hb : EvP g tb ρ (fun x => ∃ i, x = .d (.int i) ∧ Pb i)) (hk : ∀ i j, Pa i → Pb j → C i j ∧ scV (f i j) = some (k i j) ∧ P (.d (f i j))) :
    EvP g (tOp (rI C k) ta tb) ρ P := ev_op2 ha hb fun e σ F H v w a b E xa xb pa pb Q q => by
  obtain ⟨i, rfl, pi⟩ := pa
  obtain ⟨j, rfl, pj⟩ := pb
  obtain ⟨h0, h1, h2⟩ := hk i j pi pj
  exact ⟨i, j, Dq.int_eq xa, Dq.int_eq xb, h0, q _ F H _ (Gr.refl E.wl) (rx_sc h1) h2⟩
theorem Ev.int {i : Int} (h : Ev g te ρ (.d (.int i))) : EvP g te ρ (fun x => ∃ j, x = .d (.int j) ∧ j = i) := h.imp fun x e => ⟨i, e, rfl⟩
theorem ev_I0 {k : Int → Int → V} {f : Int → Int → PyData} {i j : Int} (ha : Ev g ta ρ (.d (.int i))) (hb : Ev g tb ρ (.d (.int j))) (hk : scV (f i j) = some (k i j)) : Ev g (tOp (rI0 k) ta tb) ρ (.d (f i j)) :=
  evp_I0 (f := f) ha.int hb.int fun a b ea eb => by subst ea eb; exact ⟨hk, rfl⟩
theorem ev_I {C : Int → Int → Prop} {k : Int → Int → V} {f : Int → Int → PyData} {i j : Int} (ha : Ev g ta ρ (.d (.int i))) (hb : Ev g tb ρ (.d (.int j))) (hc : C i j) (hk : scV (f i j) = some (k i j)) : Ev g (tOp (rI C k) ta tb) ρ (.d (f i j)) :=
  evp_I (f := f) ha.int hb.int fun a b ea eb => by subst ea eb; exact ⟨hc, hk, rfl⟩
variable {i j : Int}
theorem ev_add (ha : Ev g ta ρ (.d (.int i))) (hb : Ev g tb ρ (.d (.int j))) : Ev g (tOp (rI0 fun i j => .int (i + j)) ta tb) ρ (.d (.int (i + j))) := ev_I0 (f := fun i j => .int (i + j)) ha hb rfl
theorem ev_sub (ha : Ev g ta ρ (.d (.int i))) (hb : Ev g tb ρ (.d (.int j))) : Ev g (tOp (rI0 fun i j => .int (i - j)) ta tb) ρ (.d (.int (i - j))) := ev_I0 (f := fun i j => .int (i - j)) ha hb rfl
theorem ev_mul (ha : Ev g ta ρ (.d (.int i))) (hb : Ev g tb ρ (.d (.int j))) (hc : CMul i j) : Ev g (tOp (rI CMul fun i j => .int (i * j)) ta tb) ρ (.d (.int (i * j))) := ev_I (f := fun i j => .int (i * j)) ha hb hc rfl
theorem ev_fdivW (ha : Ev g ta ρ (.d (.int i))) (hb : Ev g tb ρ (.d (.int j))) (hc : CDivW i j) : Ev g (tOp (rI CDivW fun i j => .int (i / j)) ta tb) ρ (.d (.int (i / j))) := ev_I (f := fun i j => .int (i / j)) ha hb hc rfl
theorem ev_mod (ha : Ev g ta ρ (.d (.int i))) (hb : Ev g tb ρ (.d (.int j))) (hc : 0 < j) : Ev g (tOp (rI (fun _ j => 0 < j) fun i j => .int (i % j)) ta tb) ρ (.d (.int (i % j))) := ev_I (f := fun i j => .int (i % j)) ha hb hc rfl
theorem ev_pow (ha : Ev g ta ρ (.d (.int i))) (hb : Ev g tb ρ (.d (.int j))) (hc : CPow i j) : Ev g (tOp (rI CPow fun i j => .int (i ^ j.toNat)) ta tb) ρ (.d (.int (i ^ j.toNat))) := ev_I (f := fun i j => .int (i ^ j.toNat)) ha hb hc rfl
theorem ev_lt (ha : Ev g ta ρ (.d (.int i))) (hb : Ev g tb ρ (.d (.int j))) : Ev g (tOp (rI0 fun i j => .bl (decide (i < j))) ta tb) ρ (.d (.bool (decide (i < j)))) := ev_I0 (f := fun i j => .bool (decide (i < j))) ha hb rfl
theorem ev_le (ha : Ev g ta ρ (.d (.int i))) (hb : Ev g tb ρ (.d (.int j))) : Ev g (tOp (rI0 fun i j => .bl (decide (i ≤ j))) ta tb) ρ (.d (.bool (decide (i ≤ j)))) := ev_I0 (f := fun i j => .bool (decide (i ≤ j))) ha hb rfl
theorem ev_gt (ha : Ev g ta ρ (.d (.int i))) (hb : Ev g tb ρ (.d (.int j))) : Ev g (tOp (rI0 fun i j => .bl (decide (j < i))) ta tb) ρ (.d (.bool (decide (j < i)))) := ev_I0 (f := fun i j => .bool (decide (j < i))) ha hb rfl
theorem ev_ge (ha : Ev g ta ρ (.d (.int i))) (hb : Ev g tb ρ (.d (.int j))) : Ev g (tOp (rI0 fun i j => .bl (decide (j ≤ i))) ta tb) ρ (.d (.bool (decide (j ≤ i)))) := ev_I0 (f := fun i j => .bool (decide (j ≤ i))) ha hb rfl
/-- bits of naturals -/
theorem ev_shr {n k : Nat} (ha : Ev g ta ρ (.d (.int (n : Int)))) (hb : Ev g tb ρ (.d (.int (k : Int)))) : Ev g (tOp (rI (fun _ j => 0 ≤ j) fun i j => .int (i / 2 ^ j.toNat)) ta tb) ρ (.d (.int ((n >>> k : Nat) : Int))) := by
  refine (ev_I (f := fun i j => .int (i / 2 ^ j.toNat)) ha hb (Int.natCast_nonneg _) rfl).is ?_
  show Dx.d (.int ((n : Int) / 2 ^ ((k : Int).toNat))) = _
  rw [Int.toNat_natCast, Nat.shiftRight_eq_div_pow, Int.natCast_ediv]
  norm_cast
theorem ev_and {n k : Nat} (ha : Ev g ta ρ (.d (.int (n : Int)))) (hb : Ev g tb ρ (.d (.int (k : Int)))) : Ev g (tOp (rI0 fun i j => .int (Builtin.bitAnd i j)) ta tb) ρ (.d (.int ((n &&& k : Nat) : Int))) := by
  refine (ev_I0 (f := fun i j => .int (Builtin.bitAnd i j)) ha hb rfl).is ?_
  show Dx.d (.int (Builtin.bitAnd (n : Int) (k : Int))) = _
  congr 2
theorem ev_or {n k : Nat} (ha : Ev g ta ρ (.d (.int (n : Int)))) (hb : Ev g tb ρ (.d (.int (k : Int)))) : Ev g (tOp (rI0 fun i j => .int (Builtin.bitOr i j)) ta tb) ρ (.d (.int ((n ||| k : Nat) : Int))) := by
  refine (ev_I0 (f := fun i j => .int (Builtin.bitOr i j)) ha hb rfl).is ?_
  show Dx.d (.int (Builtin.bitOr (n : Int) (k : Int))) = _
  rw [bitOr_nn (Int.natCast_nonneg _) (Int.natCast_nonneg _), Int.toNat_natCast, Int.toNat_natCast]
theorem ev_shl {k : Nat} (ha : Ev g ta ρ (.d (.int 1))) (hb : Ev g tb ρ (.d (.int (k : Int)))) (hk : k ≤ 1000000) : Ev g (tOp (rI CPow fun i j => .int (i * 2 ^ j.toNat)) ta tb) ρ (.d (.int ((1 <<< k : Nat) : Int))) := by
  refine (ev_I (f := fun i j => .int (i * 2 ^ j.toNat)) ha hb ⟨Int.natCast_nonneg _, by omega, by decide⟩ rfl).is ?_
  show Dx.d (.int (1 * 2 ^ ((k : Int).toNat))) = _
  rw [Int.toNat_natCast, Nat.one_shiftLeft, Int.one_mul]
  norm_cast
/-- == and != of scalars -/
theorem ev_eq {d d' : PyData} {v w : V} (ha : Ev g ta ρ (.d d)) (hb : Ev g tb ρ (.d d')) (h1 : scV d = some v) (h2 : scV d' = some w) (hs : scal v w = true) : Ev g (tOp rEq ta tb) ρ (.d (.bool (decide (v = w)))) :=
  ev_op2 ha hb fun e σ F H v' w' a b E xa xb pa pb Q q => by
    subst pa pb
    rw [Dq.sc xa h1, Dq.sc xb h2]
    exact ⟨hs, q _ F H _ (Gr.refl E.wl) (rx_d (Dq.bl _)) rfl⟩
theorem ev_ne {d d' : PyData} {v w : V} (ha : Ev g ta ρ (.d d)) (hb : Ev g tb ρ (.d d')) (h1 : scV d = some v) (h2 : scV d' = some w) (hs : scal v w = true) : Ev g (tOp rNe ta tb) ρ (.d (.bool (!decide (v = w)))) :=
  ev_op2 ha hb fun e σ F H v' w' a b E xa xb pa pb Q q => by
    subst pa pb
    rw [Dq.sc xa h1, Dq.sc xb h2]
    exact ⟨hs, q _ F H _ (Gr.refl E.wl) (rx_d (Dq.bl _)) rfl⟩
theorem ev_eqI (ha : Ev g ta ρ (.d (.int i))) (hb : Ev g tb ρ (.d (.int j))) : Ev g (tOp rEq ta tb) ρ (.d (.bool (decide (i = j)))) := (ev_eq ha hb rfl rfl rfl).is (by congr 2; simp)
theorem ev_neI (ha : Ev g ta ρ (.d (.int i))) (hb : Ev g tb ρ (.d (.int j))) : Ev g (tOp rNe ta tb) ρ (.d (.bool (!decide (i = j)))) := (ev_ne ha hb rfl rfl rfl).is (by congr 3; simp)
theorem ev_eqN {n k : Nat} (ha : Ev g ta ρ (.d (.int (n : Int)))) (hb : Ev g tb ρ (.d (.int (k : Int)))) : Ev g (tOp rEq ta tb) ρ (.d (.bool (decide (n = k)))) := (ev_eqI ha hb).is (by congr 2; simp only [Int.natCast_inj])
theorem ev_neN {n k : Nat} (ha : Ev g ta ρ (.d (.int (n : Int)))) (hb : Ev g tb ρ (.d (.int (k : Int)))) : Ev g (tOp rNe ta tb) ρ (.d (.bool (!decide (n = k)))) := (ev_neI ha hb).is (by congr 3; simp only [Int.natCast_inj])
/-- == and != of data -/
theorem ev_eqD {K : PySem.W.Frag} {d d' : PyData} (ha : Ev g ta ρ (.d d)) (hb : Ev g tb ρ (.d d')) (h1 : SeqAt.shaped d = true) (h2 : SeqAt.shaped d' = true) : Ev g (tOp (rEqD K) ta tb) ρ (.d (.bool (PyData.eqv d d'))) :=
  ev_op2 ha hb fun e σ F H v' w' a b E xa xb pa pb Q q => by
    subst pa pb
    exact ⟨d, d', Dq.dp (Dq.mono E.wl.same xa), Dq.dp (Dq.mono E.wl.same xb), h1, h2, q _ F H _ (Gr.refl E.wl) (rx_d (Dq.bl _)) rfl⟩
theorem ev_neD {K : PySem.W.Frag} {d d' : PyData} (ha : Ev g ta ρ (.d d)) (hb : Ev g tb ρ (.d d')) (h1 : SeqAt.shaped d = true) (h2 : SeqAt.shaped d' = true) : Ev g (tOp (rNeD K) ta tb) ρ (.d (.bool (!PyData.eqv d d'))) :=
  ev_op2 ha hb fun e σ F H v' w' a b E xa xb pa pb Q q => by
    subst pa pb
    exact ⟨d, d', Dq.dp (Dq.mono E.wl.same xa), Dq.dp (Dq.mono E.wl.same xb), h1, h2, q _ F H _ (Gr.refl E.wl) (rx_d (Dq.bl _)) rfl⟩
def isNone : PyData → Bool
  | .none => true
  | _ => false
theorem ev_notN {d : PyData} (ha : Ev g ta ρ (.d d)) : Ev g (tOp rNotN ta (tC .non)) ρ (.d (.bool (!isNone d))) :=
  ev_op2 ha ev_non fun e σ F H v' w' a b E xa xb pa pb Q q => by
    subst pa pb
    show w' = .non ∧ Q (.bl (!decide (v' = .non))) H
    refine ⟨Dq.non_eq xb, ?_⟩
    have h : decide (v' = V.non) = isNone d := by
      have xa : Dq F v' d := xa
      cases xa <;> simp [isNone]
    rw [h]
    exact q _ F H _ (Gr.refl E.wl) (rx_d (Dq.bl _)) rfl

/-! ### tests -/
theorem et_test {P : Bool → Prop} (h : EvP g te ρ (fun x => ∃ b, x = .d (.bool b) ∧ P b)) : EvT g (tTest te) ρ P := fun e σ F H E Q q => h e σ F H E _ fun v F' H' x r rx p => by
  obtain ⟨b, rfl, pb⟩ := p
  exact ⟨b, Dq.bl_eq rx, q b F' H' r pb⟩
theorem et_B {P : Bool → Prop} (h : EvP g te ρ (fun x => ∃ b, x = .d (.bool b) ∧ P b)) : EvT g (tB te) ρ P := fun e σ F H E Q q => h e σ F H E _ fun v F' H' x r rx p => by
  obtain ⟨b, rfl, pb⟩ := p
  exact ⟨b, Dq.bl_eq rx, q b F' H' r pb⟩
theorem eb_test {b : Bool} (h : Ev g te ρ (.d (.bool b))) : EvB g (tTest te) ρ b := et_test (h.imp fun x e => ⟨b, e, rfl⟩)
theorem eb_B {b : Bool} (h : Ev g te ρ (.d (.bool b))) : EvB g (tB te) ρ b := et_B (h.imp fun x e => ⟨b, e, rfl⟩)
theorem et_and {P1 P2 P : Bool → Prop} (h1 : EvT g tt ρ P1) (h2 : P1 true → EvT g tu ρ P2) (k1 : P1 false → P false) (k2 : ∀ b, P1 true → P2 b → P b) : EvT g (tAnd tt tu) ρ P := fun e σ F H E Q q => h1 e σ F H E _ fun b F1 H1 r1 p1 => by
  cases b with
  | true =>
    show tu σ H1 Q
    exact h2 p1 e σ F1 H1 (E.grow r1) Q fun b2 F2 H2 r2 p2 => q b2 F2 H2 (r1.step E r2) (k2 b2 p1 p2)
  | false =>
    show Q false H1
    exact q false F1 H1 r1 (k1 p1)
theorem et_or {P1 P2 P : Bool → Prop} (h1 : EvT g tt ρ P1) (h2 : P1 false → EvT g tu ρ P2) (k1 : P1 true → P true) (k2 : ∀ b, P1 false → P2 b → P b) : EvT g (tOr tt tu) ρ P := fun e σ F H E Q q => h1 e σ F H E _ fun b F1 H1 r1 p1 => by
  cases b with
  | true =>
    show Q true H1
    exact q true F1 H1 r1 (k1 p1)
  | false =>
    show tu σ H1 Q
    exact h2 p1 e σ F1 H1 (E.grow r1) Q fun b2 F2 H2 r2 p2 => q b2 F2 H2 (r1.step E r2) (k2 b2 p1 p2)
theorem eb_and {a b : Bool} (h1 : EvB g tt ρ a) (h2 : a = true → EvB g tu ρ b) : EvB g (tAnd tt tu) ρ (a && b) := by
  refine et_and h1 (fun e => h2 e.symm) (fun e => ?_) fun c e1 e2 => ?_
  · rw [← e]; rfl
  · rw [← e1, e2]; rfl
theorem eb_or {a b : Bool} (h1 : EvB g tt ρ a) (h2 : a = false → EvB g tu ρ b) : EvB g (tOr tt tu) ρ (a || b) := by
  refine et_or h1 (fun e => h2 e.symm) (fun e => ?_) fun c e1 e2 => ?_
  · rw [← e]; rfl
  · rw [← e1, e2]; rfl
theorem et_not {P P' : Bool → Prop} (h : EvT g tt ρ P) (k : ∀ b, P b → P' (!b)) : EvT g (tNot tt) ρ P' := fun e σ F H E Q q => h e σ F H E _ fun b F1 H1 r1 p1 => q (!b) F1 H1 r1 (k b p1)
theorem eb_not {a : Bool} (h : EvB g tt ρ a) : EvB g (tNot tt) ρ (!a) := et_not h fun b e => by rw [e]
/-! ### and, or, not as values of bools -/
theorem ev_andV {a b : Bool} (h1 : Ev g ta ρ (.d (.bool a))) (h2 : a = true → Ev g tb ρ (.d (.bool b))) : Ev g (tAndV ta tb) ρ (.d (.bool (a && b))) := fun e σ F H E Q q => h1 e σ F H E _ fun v F1 H1 x r1 rx p1 => by
  subst p1
  refine ⟨a, Dq.bl_eq rx, ?_⟩
  cases a with
  | true =>
    show tb σ H1 Q
    exact h2 rfl e σ F1 H1 (E.grow r1) Q fun v2 F2 H2 x2 r2 rx2 p2 => q v2 F2 H2 x2 (r1.step E r2) rx2 p2
  | false =>
    show Q (.bl false) H1
    exact q _ F1 H1 _ r1 (rx_d (Dq.bl false)) rfl
theorem ev_orV {a b : Bool} (h1 : Ev g ta ρ (.d (.bool a))) (h2 : a = false → Ev g tb ρ (.d (.bool b))) : Ev g (tOrV ta tb) ρ (.d (.bool (a || b))) := fun e σ F H E Q q => h1 e σ F H E _ fun v F1 H1 x r1 rx p1 => by
  subst p1
  refine ⟨a, Dq.bl_eq rx, ?_⟩
  cases a with
  | true =>
    show Q (.bl true) H1
    exact q _ F1 H1 _ r1 (rx_d (Dq.bl true)) rfl
  | false =>
    show tb σ H1 Q
    exact h2 rfl e σ F1 H1 (E.grow r1) Q fun v2 F2 H2 x2 r2 rx2 p2 => q v2 F2 H2 x2 (r1.step E r2) rx2 p2
theorem ev_notV {a : Bool} (h1 : Ev g ta ρ (.d (.bool a))) : Ev g (tNotV ta) ρ (.d (.bool (!a))) := fun e σ F H E Q q => h1 e σ F H E _ fun v F1 H1 x r1 rx p1 => by
  subst p1
  exact ⟨a, Dq.bl_eq rx, q _ F1 H1 _ r1 (rx_d (Dq.bl _)) rfl⟩
theorem evp_if {P1 : Bool → Prop} (h : EvT g tt ρ P1) (h1 : P1 true → EvP g ta ρ P) (h2 : P1 false → EvP g tb ρ P) : EvP g (tIf tt ta tb) ρ P := fun e σ F H E Q q => h e σ F H E _ fun b F1 H1 r1 p1 => by
  cases b with
  | true =>
    show ta σ H1 Q
    exact h1 p1 e σ F1 H1 (E.grow r1) Q fun v2 F2 H2 x2 r2 rx2 p2 => q v2 F2 H2 x2 (r1.step E r2) rx2 p2
  | false =>
    show tb σ H1 Q
    exact h2 p1 e σ F1 H1 (E.grow r1) Q fun v2 F2 H2 x2 r2 rx2 p2 => q v2 F2 H2 x2 (r1.step E r2) rx2 p2
theorem ev_if {b : Bool} (h : EvB g tt ρ b) (h1 : b = true → Ev g ta ρ x) (h2 : b = false → Ev g tb ρ y) : Ev g (tIf tt ta tb) ρ (if b = true then x else y) := by
  refine evp_if h (fun e => ?_) (fun e => ?_)
  · subst e; exact (h1 rfl).is (if_pos rfl).symm
  · subst e; exact (h2 rfl).is (if_neg Bool.false_ne_true).symm

/-! ### arguments, displays -/
variable {tr tA : TA} {PA : List Dx → Prop} {xs : List Dx}
theorem ea_nil : EvA g tNil ρ (fun y => y = []) := fun e σ F H E Q q => q [] F H [] (Gr.refl E.wl) .nil rfl
theorem eap_cons {P1 : Dx → Prop} {P2 : List Dx → Prop} (h : EvP g ta ρ P1) (hr : EvA g tr ρ P2) : EvA g (tCons ta tr) ρ (fun l => ∃ x xs, l = x :: xs ∧ P1 x ∧ P2 xs) := fun e σ F H E Q q =>
  h e σ F H E _ fun v F1 H1 x r1 rx p1 => hr e σ F1 H1 (E.grow r1) _ fun vs F2 H2 xs r2 rxs p2 => q (v :: vs) F2 H2 (x :: xs) (r1.step E r2) (.cons (rx.mono r2) rxs) ⟨x, xs, rfl, p1, p2⟩
theorem ea_cons (h : Ev g ta ρ x) (hr : EvA g tr ρ (fun y => y = xs)) : EvA g (tCons ta tr) ρ (fun y => y = x :: xs) := fun e σ F H E Q q =>
  eap_cons h hr e σ F H E Q fun vs F' H' l r rx p => by
    obtain ⟨a, b, e1, e2, e3⟩ := p
    exact q vs F' H' l r rx (by rw [e1, e2, e3])
theorem EvA.imp {P P' : List Dx → Prop} (h : EvA g tA ρ P) (k : ∀ x, P x → P' x) : EvA g tA ρ P' := fun e σ F H E Q q => h e σ F H E Q fun v F' H' x r rx p => q v F' H' x r rx (k x p)
theorem RxAll.dq {e : En} {F H : Hp} : ∀ {vs : List V} {ds : List PyData}, RxAll g e F H vs (ds.map Dx.d) → DqAll F vs ds
  | _, [], .nil => .nil
  | _, d :: ds, .cons h a => .cons h (RxAll.dq (ds := ds) a)
theorem RxAll.length {e : En} {F H : Hp} : ∀ {vs : List V} {ds : List Dx}, RxAll g e F H vs ds → vs.length = ds.length
  | _, _, .nil => rfl
  | _, _, .cons h a => congrArg (· + 1) a.length
theorem evp_tup {PD : List PyData → Prop} (h : EvA g tA ρ (fun l => ∃ ds, l = ds.map Dx.d ∧ ds.length ≤ 1000 ∧ PD ds)) (k : ∀ ds, PD ds → P (.d (.tuple ds))) : EvP g (tTup tA) ρ P := fun e σ F H E Q q => h e σ F H E _ fun vs F1 H1 xs r1 rx p => by
  obtain ⟨ds, rfl, hl, pd⟩ := p
  have hlen := rx.length
  rw [List.length_map] at hlen
  refine ⟨Nat.le_trans (by omega) (by decide : 1000 ≤ sizeLine), fun p hp => ?_⟩
  have w1 := (E.grow r1).wl
  have r2 : Gr g e.lf F1 H1 (upd F1 p (.tup vs)) (upd H1 p (.tup vs)) := Gr.new w1 hp
  exact q _ _ _ (.d (.tuple ds)) (r1.step E r2) (Dq.tup upd_same (rx.dq.mono r2.ff)) (k ds pd)
theorem evp_lst {PD : List PyData → Prop} (h : EvA g tA ρ (fun l => ∃ ds, l = ds.map Dx.d ∧ ds.length ≤ 1000 ∧ PD ds)) (k : ∀ ds, PD ds → P (.d (.list ds))) : EvP g (tLst tA) ρ P := fun e σ F H E Q q => h e σ F H E _ fun vs F1 H1 xs r1 rx p => by
  obtain ⟨ds, rfl, hl, pd⟩ := p
  have hlen := rx.length
  rw [List.length_map] at hlen
  refine ⟨Nat.le_trans (by omega) (by decide : 1000 ≤ sizeLine), fun p hp => ?_⟩
  have w1 := (E.grow r1).wl
  have r2 : Gr g e.lf F1 H1 (upd F1 p (.lst vs)) (upd H1 p (.lst vs)) := Gr.new w1 hp
  exact q _ _ _ (.d (.list ds)) (r1.step E r2) (Dq.lst upd_same (rx.dq.mono r2.ff)) (k ds pd)
theorem ev_tup {ds : List PyData} (h : EvA g tA ρ (fun y => y = ds.map Dx.d)) (hl : ds.length ≤ 1000 := by first | decide | simp) : Ev g (tTup tA) ρ (.d (.tuple ds)) := evp_tup (PD := fun y => y = ds) (h.imp fun x e => ⟨ds, e, hl, rfl⟩) fun ds' e => by rw [e]
theorem ev_lst {ds : List PyData} (h : EvA g tA ρ (fun y => y = ds.map Dx.d)) (hl : ds.length ≤ 1000 := by first | decide | simp) : Ev g (tLst tA) ρ (.d (.list ds)) := evp_lst (PD := fun y => y = ds) (h.imp fun x e => ⟨ds, e, hl, rfl⟩) fun ds' e => by rw [e]
/-- data arguments -/
abbrev EaD (g : Gb) (tA : TA) (ρ : Rho) (ds : List PyData) : Prop := EvA g tA ρ (fun y => y = ds.map Dx.d)
theorem ed_nil : EaD g tNil ρ [] := ea_nil
theorem ed_cons {d : PyData} {ds : List PyData} (h : Ev g ta ρ (.d d)) (hr : EaD g tr ρ ds) : EaD g (tCons ta tr) ρ (d :: ds) := ea_cons h hr
end
end TB
set_option Elab.async false
set_option linter.all false
set_option autoImplicit false
set_option maxRecDepth 100000
set_option maxHeartbeats 4000000
/-! the data layer: sequences, calls of built-ins, walks, comprehensions, statements -/
namespace TB
open PySem PySem.Spec PyProof.Rows L2

/-! ### sequences -/
def isL : Dx → Option (List PyData)
  | .d (.list ds) => some ds
  | .own ds => some ds
  | _ => none
def isS : Dx → Option (List PyData)
  | .d (.list ds) => some ds
  | .d (.tuple ds) => some ds
  | .own ds => some ds
  | _ => none
section
variable {g : Gb} {ρ ρ' : Rho} {te ta tb tc : TE} {tt tu : TT} {P P' : Dx → Prop} {x y z : Dx} {K : PySem.W.Frag}
theorem rx_lst {e : En} {F H : Hp} {v : V} {ds : List PyData} (w : Wl g e.lf F H) (r : Rx g e F H v x) (h : isL x = some ds) : ∃ a vs, v = .ref a ∧ H a = some (.lst vs) ∧ DqAll F vs ds := by
  cases x with
  | d x =>
    cases x with
    | list es =>
      cases h
      obtain ⟨a, vs, e1, e2, e3⟩ := Dq.lst_of r
      exact ⟨a, vs, e1, w.same _ _ e2, e3⟩
    | _ => cases h
  | own es =>
    cases h
    obtain ⟨l, vs, e1, o, q⟩ := r
    exact ⟨l, vs, e1, o.h, q⟩
  | _ => cases h
theorem rx_seq {e : En} {F H : Hp} {v : V} {ds : List PyData} (w : Wl g e.lf F H) (r : Rx g e F H v x) (h : isS x = some ds) : ∃ a vs, v = .ref a ∧ (SqL K H a vs ∨ SqT K H a vs) ∧ DqAll F vs ds := by
  cases x with
  | d x =>
    cases x with
    | list es =>
      cases h
      obtain ⟨a, vs, e1, e2, e3⟩ := Dq.lst_of r
      exact ⟨a, vs, e1, .inl (SqL.of (w.same _ _ e2)), e3⟩
    | tuple es =>
      cases h
      obtain ⟨a, vs, e1, e2, e3⟩ := Dq.tup_of r
      exact ⟨a, vs, e1, .inr (SqT.of (w.same _ _ e2)), e3⟩
    | _ => cases h
  | own es =>
    cases h
    obtain ⟨l, vs, e1, o, q⟩ := r
    exact ⟨l, vs, e1, .inl (SqL.of o.h), q⟩
  | _ => cases h
theorem dq_at {F : Hp} {vs : List V} {ds : List PyData} {i : Int} {d : PyData} (a : DqAll F vs ds) (h : atI ds i = some d) : ∃ v, atI vs i = some v ∧ Dq F v d := by
  unfold atI at h ⊢
  rw [a.length]
  cases q : ixN ds.length i with
  | none => rw [q] at h; cases h
  | some j =>
    rw [q] at h
    exact a.get h
theorem evp_ixL {ds : List PyData} {Pi : Int → Prop} (ha : Ev g ta ρ x) (hx : isL x = some ds) (hb : EvP g tb ρ (fun y => ∃ i, y = .d (.int i) ∧ Pi i)) (k : ∀ i, Pi i → ∃ d, atI ds i = some d ∧ P (.d d)) : EvP g (tOp (rIxL K) ta tb) ρ P :=
  ev_op2 ha hb fun e σ F H v w a b E xa xb pa pb Q q => by
    subst pa
    obtain ⟨i, rfl, pi⟩ := pb
    obtain ⟨d, h1, h2⟩ := k i pi
    obtain ⟨l, vs, rfl, hl, hq⟩ := rx_lst E.wl xa hx
    obtain ⟨u, hu, du⟩ := dq_at hq h1
    exact ⟨l, vs, i, u, rfl, Dq.int_eq xb, SqL.of hl, hu, q u F H (.d d) (Gr.refl E.wl) du h2⟩
theorem ev_ixL {ds : List PyData} {i : Int} {d : PyData} (ha : Ev g ta ρ x) (hb : Ev g tb ρ (.d (.int i))) (hx : isL x = some ds) (h : atI ds i = some d) : Ev g (tOp (rIxL K) ta tb) ρ (.d d) :=
  evp_ixL ha hx hb.int fun j e => ⟨d, by rw [e]; exact h, rfl⟩
theorem ev_ixT {ds : List PyData} {i : Int} {d : PyData} (ha : Ev g ta ρ (.d (.tuple ds))) (hb : Ev g tb ρ (.d (.int i))) (h : atI ds i = some d) : Ev g (tOp (rIxT K) ta tb) ρ (.d d) :=
  ev_op2 ha hb fun e σ F H v w a b E xa xb pa pb Q q => by
    subst pa pb
    obtain ⟨l, vs, rfl, hl, hq⟩ := Dq.tup_of xa
    obtain ⟨u, hu, du⟩ := dq_at hq h
    exact ⟨l, vs, i, u, rfl, Dq.int_eq xb, SqT.of (E.wl.same _ _ hl), hu, q u F H (.d d) (Gr.refl E.wl) du rfl⟩
/-- a built-in's call -/
theorem evp_cb1 {r : List V → Hp → VK → Prop} {Pa : Dx → Prop} (ha : EvP g ta ρ Pa) (hr : ∀ (e : En) (σ : St) (F H : Hp) (v : V) (a : Dx), Ew g e σ F H ρ → Rx g e F H v a → Pa a → ∀ Q : VK, (∀ u F' H' z, Gr g e.lf F H F' H' → Rx g e F' H' u z → P z → Q u H') → r [v] H Q) :
    EvP g (tCB r (tCons ta tNil)) ρ P := fun e σ F H E Q q =>
  ha e σ F H E _ fun v F1 H1 a r1 x1 p1 => hr e σ F1 H1 v a (E.grow r1) x1 p1 Q fun u F3 H3 z r3 x3 p3 => q u F3 H3 z (r1.step E r3) x3 p3
theorem evp_cb2 {r : List V → Hp → VK → Prop} {Pa Pb : Dx → Prop} (ha : EvP g ta ρ Pa) (hb : EvP g tb ρ Pb) (hr : ∀ (e : En) (σ : St) (F H : Hp) (v w : V) (a b : Dx), Ew g e σ F H ρ → Rx g e F H v a → Rx g e F H w b → Pa a → Pb b → ∀ Q : VK, (∀ u F' H' z, Gr g e.lf F H F' H' → Rx g e F' H' u z → P z → Q u H') → r [v, w] H Q) :
    EvP g (tCB r (tCons ta (tCons tb tNil))) ρ P := fun e σ F H E Q q =>
  ha e σ F H E _ fun v F1 H1 a r1 x1 p1 => hb e σ F1 H1 (E.grow r1) _ fun w F2 H2 b r2 x2 p2 =>
    hr e σ F2 H2 v w a b ((E.grow r1).grow r2) (x1.mono r2) x2 p1 p2 Q fun u F3 H3 z r3 x3 p3 => q u F3 H3 z (r1.step E (r2.step (E.grow r1) r3)) x3 p3
def rLenS (K : PySem.W.Frag) : List V → Hp → VK → Prop := fun xs H Q => ∃ p ys, xs = [.ref p] ∧ (SqL K H p ys ∨ SqT K H p ys) ∧ Q (.int ys.length) H
theorem ev_len {ds : List PyData} (ha : Ev g ta ρ x) (hx : isS x = some ds) : Ev g (tCB (rLenS K) (tCons ta tNil)) ρ (.d (.int (ds.length : Int))) :=
  evp_cb1 ha fun e σ F H v a E xa pa Q q => by
    subst pa
    obtain ⟨l, vs, rfl, hl, hq⟩ := rx_seq (K := K) E.wl xa hx
    refine ⟨l, vs, rfl, hl, ?_⟩
    rw [hq.length]
    exact q _ F H _ (Gr.refl E.wl) (rx_d (Dq.int _)) rfl
theorem ev_sum {ns : List Int} (ha : Ev g ta ρ x) (hx : isL x = some (ns.map PyData.int)) : Ev g (tCB (rSum K) (tCons ta tNil)) ρ (.d (.int ns.sum)) :=
  evp_cb1 ha fun e σ F H v a E xa pa Q q => by
    subst pa
    obtain ⟨l, vs, rfl, hl, hq⟩ := rx_lst E.wl xa hx
    rw [hq.ints] at hl
    exact ⟨l, ns, rfl, SqL.of hl, q _ F H _ (Gr.refl E.wl) (rx_d (Dq.int _)) rfl⟩
theorem evp_min {ns : List Int} (ha : Ev g ta ρ x) (hx : isL x = some (ns.map PyData.int)) (h0 : ns ≠ []) (k : ∀ m, m ∈ ns → (∀ y, y ∈ ns → m ≤ y) → P (.d (.int m))) : EvP g (tCB (rMin K) (tCons ta tNil)) ρ P :=
  evp_cb1 ha fun e σ F H v a E xa pa Q q => by
    subst pa
    obtain ⟨l, vs, rfl, hl, hq⟩ := rx_lst E.wl xa hx
    rw [hq.ints] at hl
    exact ⟨l, ns, rfl, SqL.of hl, List.length_pos_iff.mpr h0, fun m h1 h2 => q _ F H _ (Gr.refl E.wl) (rx_d (Dq.int _)) (k m h1 h2)⟩
theorem ev_all {bs : List Bool} (ha : Ev g ta ρ x) (hx : isL x = some (bs.map PyData.bool)) : Ev g (tCB (rAll K) (tCons ta tNil)) ρ (.d (.bool (bs.all id))) :=
  evp_cb1 ha fun e σ F H v a E xa pa Q q => by
    subst pa
    obtain ⟨l, vs, rfl, hl, hq⟩ := rx_lst E.wl xa hx
    rw [hq.bls] at hl
    exact ⟨l, bs, rfl, SqL.of hl, q _ F H _ (Gr.refl E.wl) (rx_d (Dq.bl _)) rfl⟩
theorem ev_any {bs : List Bool} (ha : Ev g ta ρ x) (hx : isL x = some (bs.map PyData.bool)) : Ev g (tCB (rAny K) (tCons ta tNil)) ρ (.d (.bool (bs.any id))) :=
  evp_cb1 ha fun e σ F H v a E xa pa Q q => by
    subst pa
    obtain ⟨l, vs, rfl, hl, hq⟩ := rx_lst E.wl xa hx
    rw [hq.bls] at hl
    exact ⟨l, bs, rfl, SqL.of hl, q _ F H _ (Gr.refl E.wl) (rx_d (Dq.bl _)) rfl⟩
/-- the ints in order -/
def srt (ns : List Int) : List Int := ns.mergeSort (fun a b => decide (a ≤ b))
theorem perm_sorted_eq : ∀ {l l' : List Int}, l.Perm l' → l.Pairwise (· ≤ ·) → l'.Pairwise (· ≤ ·) → l = l'
  | [], l', p, _, _ => (List.nil_perm.mp p).symm
  | a :: l, [], p, _, _ => absurd p.symm (List.not_perm_nil_cons _ _)
  | a :: l, b :: l', p, h1, h2 => by
    have e : a = b := by
      have ha : a ∈ b :: l' := p.mem_iff.mp List.mem_cons_self
      have hb : b ∈ a :: l := p.mem_iff.mpr List.mem_cons_self
      rcases List.mem_cons.mp ha with z | z
      · exact z
      · rcases List.mem_cons.mp hb with y | y
        · exact y.symm
        · exact Int.le_antisymm ((List.pairwise_cons.mp h1).1 b y) ((List.pairwise_cons.mp h2).1 a z)
    subst e
    rw [perm_sorted_eq (List.perm_cons a |>.mp p) (List.pairwise_cons.mp h1).2 (List.pairwise_cons.mp h2).2]
theorem srt_perm (ns : List Int) : (srt ns).Perm ns := List.mergeSort_perm _ _
theorem srt_sorted (ns : List Int) : (srt ns).Pairwise (· ≤ ·) := by
  have h := List.pairwise_mergeSort (le := fun a b : Int => decide (a ≤ b)) (by intro a b c h1 h2; simp only [decide_eq_true_eq] at *; omega) (by intro a b; simp only [Bool.or_eq_true, decide_eq_true_eq]; omega) ns
  exact h.imp fun {a b} h => of_decide_eq_true h
theorem srt_eq {ns ns' : List Int} (p : ns'.Perm ns) (h : ns'.Pairwise (· ≤ ·)) : ns' = srt ns := perm_sorted_eq (p.trans (srt_perm ns).symm) h (srt_sorted ns)
theorem ev_sortedL {ns : List Int} (ha : Ev g ta ρ x) (hx : isL x = some (ns.map PyData.int)) : Ev g (tCB (rSortedI K) (tCons ta tNil)) ρ (.d (.list ((srt ns).map PyData.int))) :=
  evp_cb1 ha fun e σ F H v a E xa pa Q q => by
    subst pa
    obtain ⟨l, vs, rfl, hl, hq⟩ := rx_lst E.wl xa hx
    rw [hq.ints] at hl
    refine ⟨l, ns, rfl, SqL.of hl, fun ns' p h1 h2 hp => ?_⟩
    rw [srt_eq h1 h2]
    exact q _ _ _ _ (Gr.new E.wl hp) (rx_d (Dq.lst upd_same (DqAll.of_ints _))) rfl
def rTupS (K : PySem.W.Frag) : List V → Hp → VK → Prop := fun xs H Q => ∃ p ys, xs = [.ref p] ∧ ((SqL K H p ys ∧ ∀ l, H l = none → Q (.ref l) (upd H l (.tup ys))) ∨ (SqT K H p ys ∧ Q (.ref p) H))
theorem ev_tupL {ds : List PyData} (ha : Ev g ta ρ x) (hx : isL x = some ds) : Ev g (tCB (rTupS K) (tCons ta tNil)) ρ (.d (.tuple ds)) :=
  evp_cb1 ha fun e σ F H v a E xa pa Q q => by
    subst pa
    obtain ⟨l, vs, rfl, hl, hq⟩ := rx_lst E.wl xa hx
    exact ⟨l, vs, rfl, .inl ⟨SqL.of hl, fun p hp => q _ _ _ _ (Gr.new E.wl hp) (rx_d (Dq.tup upd_same (hq.mono (Gr.new (o := .tup vs) E.wl hp).ff))) rfl⟩⟩
def rListS (K : PySem.W.Frag) : List V → Hp → VK → Prop := fun xs H Q => ∃ p ys, xs = [.ref p] ∧ (SqL K H p ys ∨ SqT K H p ys) ∧ ∀ l, H l = none → Q (.ref l) (upd H l (.lst ys))
theorem ev_listS {ds : List PyData} (ha : Ev g ta ρ x) (hx : isS x = some ds) : Ev g (tCB (rListS K) (tCons ta tNil)) ρ (.d (.list ds)) :=
  evp_cb1 ha fun e σ F H v a E xa pa Q q => by
    subst pa
    obtain ⟨l, vs, rfl, hl, hq⟩ := rx_seq (K := K) E.wl xa hx
    exact ⟨l, vs, rfl, hl, fun p hp => q _ _ _ _ (Gr.new E.wl hp) (rx_d (Dq.lst upd_same (hq.mono (Gr.new (o := .lst vs) E.wl hp).ff))) rfl⟩
def rInt1 : List V → Hp → VK → Prop := fun xs H Q => (∃ i, xs = [.int i] ∧ Q (.int i) H) ∨ ∃ k, xs = [.bl k] ∧ Q (.int (if k then 1 else 0)) H
theorem evp_intI {Pi : Int → Prop} (ha : EvP g ta ρ (fun y => ∃ i, y = .d (.int i) ∧ Pi i)) (k : ∀ i, Pi i → P (.d (.int i))) : EvP g (tCB rInt1 (tCons ta tNil)) ρ P :=
  evp_cb1 ha fun e σ F H v a E xa pa Q q => by
    obtain ⟨i, rfl, pi⟩ := pa
    rw [Dq.int_eq xa]
    exact .inl ⟨i, rfl, q _ F H _ (Gr.refl E.wl) (rx_d (Dq.int _)) (k i pi)⟩
theorem ev_intI {i : Int} (ha : Ev g ta ρ (.d (.int i))) : Ev g (tCB rInt1 (tCons ta tNil)) ρ (.d (.int i)) := evp_intI ha.int fun j e => by rw [e]
theorem ev_intB {b : Bool} (ha : Ev g ta ρ (.d (.bool b))) : Ev g (tCB rInt1 (tCons ta tNil)) ρ (.d (.int (if b then 1 else 0))) :=
  evp_cb1 ha fun e σ F H v a E xa pa Q q => by
    subst pa
    rw [Dq.bl_eq xa]
    exact .inr ⟨b, rfl, q _ F H _ (Gr.refl E.wl) (rx_d (Dq.int _)) rfl⟩
def rAbs : List V → Hp → VK → Prop := fun xs H Q => ∃ i, xs = [.int i] ∧ Q (.int (if i < 0 then -i else i)) H
theorem ev_abs {i : Int} (ha : Ev g ta ρ (.d (.int i))) : Ev g (tCB rAbs (tCons ta tNil)) ρ (.d (.int (if i < 0 then -i else i))) :=
  evp_cb1 ha fun e σ F H v a E xa pa Q q => by
    subst pa
    rw [Dq.int_eq xa]
    exact ⟨i, rfl, q _ F H _ (Gr.refl E.wl) (rx_d (Dq.int _)) rfl⟩
def rMax2 : List V → Hp → VK → Prop := fun xs H Q => ∃ i j, xs = [.int i, .int j] ∧ Q (.int (if j > i then j else i)) H
def rMin2 : List V → Hp → VK → Prop := fun xs H Q => ∃ i j, xs = [.int i, .int j] ∧ Q (.int (if j < i then j else i)) H
theorem evp_max2 {Pi Pj : Int → Prop} (ha : EvP g ta ρ (fun y => ∃ i, y = .d (.int i) ∧ Pi i)) (hb : EvP g tb ρ (fun y => ∃ i, y = .d (.int i) ∧ Pj i)) (k : ∀ i j, Pi i → Pj j → P (.d (.int (if j > i then j else i)))) : EvP g (tCB rMax2 (tCons ta (tCons tb tNil))) ρ P :=
  evp_cb2 ha hb fun e σ F H v w a b E xa xb pa pb Q q => by
    obtain ⟨i, rfl, pi⟩ := pa
    obtain ⟨j, rfl, pj⟩ := pb
    rw [Dq.int_eq xa, Dq.int_eq xb]
    exact ⟨i, j, rfl, q _ F H _ (Gr.refl E.wl) (rx_d (Dq.int _)) (k i j pi pj)⟩
theorem ev_max2 {i j : Int} (ha : Ev g ta ρ (.d (.int i))) (hb : Ev g tb ρ (.d (.int j))) : Ev g (tCB rMax2 (tCons ta (tCons tb tNil))) ρ (.d (.int (if j > i then j else i))) := evp_max2 ha.int hb.int fun a b e1 e2 => by rw [e1, e2]
theorem ev_min2 {i j : Int} (ha : Ev g ta ρ (.d (.int i))) (hb : Ev g tb ρ (.d (.int j))) : Ev g (tCB rMin2 (tCons ta (tCons tb tNil))) ρ (.d (.int (if j < i then j else i))) :=
  evp_cb2 ha hb fun e σ F H v w a b E xa xb pa pb Q q => by
    subst pa pb
    rw [Dq.int_eq xa, Dq.int_eq xb]
    exact ⟨i, j, rfl, q _ F H _ (Gr.refl E.wl) (rx_d (Dq.int _)) rfl⟩
/-- xs + ys -/
theorem evp_cat {P1 P2 : List PyData → Prop} (ha : EvP g ta ρ (fun y => ∃ ds, isL y = some ds ∧ P1 ds)) (hb : EvP g tb ρ (fun y => ∃ ds, isL y = some ds ∧ P2 ds)) (k : ∀ a b, P1 a → P2 b → a.length + b.length ≤ 1000000 ∧ P (.d (.list (a ++ b)))) : EvP g (tOp rCat ta tb) ρ P :=
  ev_op2 ha hb fun e σ F H v w a b E xa xb pa pb Q q => by
    obtain ⟨ds, h1, p1⟩ := pa
    obtain ⟨es, h2, p2⟩ := pb
    obtain ⟨l, vs, rfl, hl, hq⟩ := rx_lst E.wl xa h1
    obtain ⟨l2, us, rfl, hl2, hq2⟩ := rx_lst E.wl xb h2
    obtain ⟨hz, pp⟩ := k ds es p1 p2
    refine ⟨l, l2, vs, us, rfl, rfl, hl, hl2, ?_, fun p hp => q _ _ _ (.d (.list (ds ++ es))) (Gr.new E.wl hp) (rx_d (Dq.lst upd_same ((hq.append hq2).mono (Gr.new (o := .lst (vs ++ us)) E.wl hp).ff))) pp⟩
    rw [hq.length, hq2.length]
    exact Nat.le_trans hz (by decide)
theorem ev_cat {ds es : List PyData} (ha : Ev g ta ρ x) (hb : Ev g tb ρ y) (h1 : isL x = some ds) (h2 : isL y = some es) (hz : ds.length + es.length ≤ 1000000) : Ev g (tOp rCat ta tb) ρ (.d (.list (ds ++ es))) :=
  evp_cat (P1 := fun a => a = ds) (P2 := fun a => a = es) (ha.imp fun z e => ⟨ds, by rw [e]; exact h1, rfl⟩) (hb.imp fun z e => ⟨es, by rw [e]; exact h2, rfl⟩) fun a b e1 e2 => by
    subst e1 e2
    exact ⟨hz, rfl⟩
/-- t + u -/
theorem ev_catT {ds es : List PyData} (ha : Ev g ta ρ (.d (.tuple ds))) (hb : Ev g tb ρ (.d (.tuple es))) (hz : ds.length + es.length ≤ 1000000) : Ev g (tOp (rCatA K) ta tb) ρ (.d (.tuple (ds ++ es))) :=
  ev_op2 ha hb fun e σ F H v w a b E xa xb pa pb Q q => by
    subst pa pb
    obtain ⟨l, vs, rfl, hl, hq⟩ := Dq.tup_of xa
    obtain ⟨l2, us, rfl, hl2, hq2⟩ := Dq.tup_of xb
    refine ⟨l, l2, vs, us, rfl, rfl, SqT.of (E.wl.same _ _ hl), SqT.of (E.wl.same _ _ hl2), ?_, fun h => ?_, fun h h' => ?_, fun h h' p hp => ?_⟩
    · rw [hq.length, hq2.length]
      exact Nat.le_trans hz (by decide)
    · subst h
      cases hq
      exact q _ F H _ (Gr.refl E.wl) xb rfl
    · subst h'
      cases hq2
      rw [List.append_nil] at q
      exact q _ F H _ (Gr.refl E.wl) xa rfl
    · exact q _ _ _ _ (Gr.new E.wl hp) (rx_d (Dq.tup upd_same ((hq.append hq2).mono (Gr.new (o := .tup (vs ++ us)) E.wl hp).ff))) rfl
/-- x in xs of ints -/
theorem inV_int {i : Int} : ∀ ns : List Int, inV (.int i) (ns.map V.int) = decide (i ∈ ns)
  | [] => by simp [inV]
  | n :: ns => by
    have h := inV_int (i := i) ns
    unfold inV at h ⊢
    rw [List.map_cons, List.any_cons, h]
    have : eqV (V.int n) (V.int i) = decide (i = n) := by
      show decide (n = i) = _
      simp [eq_comm]
    rw [this, Bool.eq_iff_iff]
    simp
theorem flat_ints : ∀ ns : List Int, (ns.map V.int).all flatV = true
  | [] => rfl
  | n :: ns => by rw [List.map_cons, List.all_cons, flat_ints ns]; rfl
theorem ev_in {i : Int} {ns : List Int} (ha : Ev g ta ρ (.d (.int i))) (hb : Ev g tb ρ y) (hy : isS y = some (ns.map PyData.int)) : Ev g (tOp (rIn K false) ta tb) ρ (.d (.bool (decide (i ∈ ns)))) :=
  ev_op2 ha hb fun e σ F H v w a b E xa xb pa pb Q q => by
    subst pa pb
    obtain ⟨l, vs, rfl, hl, hq⟩ := rx_seq (K := K) E.wl xb hy
    rw [hq.ints] at hl
    rw [Dq.int_eq xa]
    refine ⟨l, _, rfl, hl, rfl, flat_ints ns, ?_⟩
    show Q (.bl (inV (.int i) (ns.map V.int))) H
    rw [inV_int]
    exact q _ F H _ (Gr.refl E.wl) (rx_d (Dq.bl _)) rfl
theorem ev_nin {i : Int} {ns : List Int} (ha : Ev g ta ρ (.d (.int i))) (hb : Ev g tb ρ y) (hy : isS y = some (ns.map PyData.int)) : Ev g (tOp (rIn K true) ta tb) ρ (.d (.bool (!decide (i ∈ ns)))) :=
  ev_op2 ha hb fun e σ F H v w a b E xa xb pa pb Q q => by
    subst pa pb
    obtain ⟨l, vs, rfl, hl, hq⟩ := rx_seq (K := K) E.wl xb hy
    rw [hq.ints] at hl
    rw [Dq.int_eq xa]
    refine ⟨l, _, rfl, hl, rfl, flat_ints ns, ?_⟩
    show Q (.bl (!inV (.int i) (ns.map V.int))) H
    rw [inV_int]
    exact q _ F H _ (Gr.refl E.wl) (rx_d (Dq.bl _)) rfl
/-! ### slices -/
def EvO (g : Gb) (to : TO) (ρ : Rho) (P : Option Int → Prop) : Prop := ∀ (e : En) (σ : St) (F H : Hp), Ew g e σ F H ρ → ∀ Q : Option Int → Hp → Prop, (∀ o F' H', Gr g e.lf F H F' H' → P o → Q o H') → to σ H Q
theorem eo_none : EvO g tNoPart ρ (fun o => o = none) := fun e σ F H E Q q => q none F H (Gr.refl E.wl) rfl
theorem eo_some {i : Int} (h : Ev g te ρ (.d (.int i))) : EvO g (tPart te) ρ (fun o => o = some i) := fun e σ F H E Q q => h e σ F H E _ fun v F' H' x r rx p => by
  subst p
  exact ⟨i, Dq.int_eq rx, q (some i) F' H' r rfl⟩
def cutD (ds : List PyData) (lo hi : Option Int) : List PyData := (ds.drop (HT.sIx ds.length 0 lo)).take (HT.sIx ds.length ds.length hi - HT.sIx ds.length 0 lo)
theorem DqAll.cut {F : Hp} {vs : List V} {ds : List PyData} (a : DqAll F vs ds) (lo hi : Option Int) : DqAll F (cutV vs lo hi) (cutD ds lo hi) := by
  unfold cutV cutD
  rw [a.length]
  exact (a.drop _).take _
theorem ev_slL {tl th : TO} {ds : List PyData} {lo hi : Option Int} (ha : Ev g ta ρ x) (hx : isL x = some ds) (hl : EvO g tl ρ (fun o => o = lo)) (hh : EvO g th ρ (fun o => o = hi)) : Ev g (tSl (rSlL K) ta tl th) ρ (.d (.list (cutD ds lo hi))) := fun e σ F H E Q q =>
  ha e σ F H E _ fun v F1 H1 a r1 x1 p1 => hl e σ F1 H1 (E.grow r1) _ fun o F2 H2 r2 p2 => hh e σ F2 H2 ((E.grow r1).grow r2) _ fun u F3 H3 r3 p3 => by
    subst p1 p2 p3
    have E3 := ((E.grow r1).grow r2).grow r3
    obtain ⟨l, vs, rfl, hl, hq⟩ := rx_lst E3.wl ((x1.mono r2).mono r3) hx
    exact ⟨l, vs, rfl, SqL.of hl, fun p hp => q _ _ _ _ (r1.step E (r2.step (E.grow r1) (r3.step ((E.grow r1).grow r2) (Gr.new E3.wl hp)))) (rx_d (Dq.lst upd_same ((hq.cut _ _).mono (Gr.new (o := .lst _) E3.wl hp).ff))) rfl⟩
theorem ev_slT {tl th : TO} {ds : List PyData} {lo hi : Option Int} (ha : Ev g ta ρ (.d (.tuple ds))) (hl : EvO g tl ρ (fun o => o = lo)) (hh : EvO g th ρ (fun o => o = hi)) : Ev g (tSl (rSlA K) ta tl th) ρ (.d (.tuple (cutD ds lo hi))) := fun e σ F H E Q q =>
  ha e σ F H E _ fun v F1 H1 a r1 x1 p1 => hl e σ F1 H1 (E.grow r1) _ fun o F2 H2 r2 p2 => hh e σ F2 H2 ((E.grow r1).grow r2) _ fun u F3 H3 r3 p3 => by
    subst p1 p2 p3
    have E3 := ((E.grow r1).grow r2).grow r3
    have x3 := (x1.mono r2).mono r3
    obtain ⟨l, vs, rfl, hl, hq⟩ := Dq.tup_of x3
    refine ⟨l, vs, rfl, SqT.of (E3.wl.same _ _ hl), fun hw => ?_, fun _ p hp => ?_⟩
    · have e1 : cutD ds o u = ds := by
        unfold cutD
        rw [hq.length] at hw
        rw [hw.1, hw.2, List.drop_zero, Nat.sub_zero, List.take_length]
      rw [e1] at q
      exact q _ F3 H3 _ (r1.step E (r2.step (E.grow r1) r3)) x3 rfl
    · exact q _ _ _ _ (r1.step E (r2.step (E.grow r1) (r3.step ((E.grow r1).grow r2) (Gr.new E3.wl hp)))) (rx_d (Dq.tup upd_same ((hq.cut _ _).mono (Gr.new (o := .tup _) E3.wl hp).ff))) rfl
/-! ### chains -/
theorem ev_chainI {f f' : Int → Int → Bool} {k k' : Int → Int → V} {i j m : Int} (ha : Ev g ta ρ (.d (.int i))) (hb : Ev g tb ρ (.d (.int j))) (hc : Ev g tc ρ (.d (.int m))) (h1 : ∀ a b, k a b = .bl (f a b)) (h2 : ∀ a b, k' a b = .bl (f' a b)) :
    Ev g (tChain (rI0 k) (rI0 k') ta tb tc) ρ (.d (.bool (f i j && f' j m))) := fun e σ F H E Q q =>
  ha e σ F H E _ fun v F1 H1 a r1 x1 p1 => hb e σ F1 H1 (E.grow r1) _ fun w F2 H2 b r2 x2 p2 => by
    subst p1 p2
    refine ⟨i, j, Dq.int_eq x1, Dq.int_eq x2, f i j, h1 i j, ?_⟩
    cases hf : f i j with
    | true =>
      refine iteT (hc e σ F2 H2 ((E.grow r1).grow r2) _ fun u F3 H3 c r3 x3 p3 => ?_)
      subst p3
      refine ⟨j, m, Dq.int_eq x2, Dq.int_eq x3, ?_⟩
      rw [h2]
      rw [hf, Bool.true_and] at q
      exact q _ F3 H3 _ (r1.step E (r2.step (E.grow r1) r3)) (rx_d (Dq.bl _)) rfl
    | false =>
      rw [hf, Bool.false_and] at q
      exact iteF (q _ F2 H2 _ (r1.step E r2) (rx_d (Dq.bl _)) rfl)
end
end TB
set_option Elab.async false
set_option linter.all false
set_option autoImplicit false
set_option maxRecDepth 100000
set_option maxHeartbeats 4000000
/-! the data layer: walks, comprehensions, statements, defs -/
namespace TB
open PySem PySem.Spec PyProof.Rows L2

section
variable {g : Gb} {ρ ρ' : Rho} {te ta tb tc : TE} {tt tu : TT} {P P' : Dx → Prop} {x y z : Dx} {K : PySem.W.Frag}
/-! ### walks -/
theorem wd_list {lf : Option Addr} {F1 : Hp} {a : Addr} {vs : List V} {ds : List PyData} (h : F1 a = some (.lst vs)) (q : DqAll F1 vs ds) : WalkD g lf F1 (Itl K a) ds := by
  refine ⟨_, _, by rw [← q.length]; exact walk_list, fun F2 H2 s1 s2 => SqL.of (s2 _ _ (s1 _ _ h)), fun i F2 H2 x H3 d w s1 hd y => ?_⟩
  obtain ⟨e1, e2⟩ := y
  subst e1
  exact ⟨F2, Gr.refl w, (q.got e2 hd).mono s1⟩
theorem wd_tup {lf : Option Addr} {F1 : Hp} {a : Addr} {vs : List V} {ds : List PyData} (h : F1 a = some (.tup vs)) (q : DqAll F1 vs ds) : WalkD g lf F1 (Itt K a) ds := by
  refine ⟨_, _, by rw [← q.length]; exact walk_tup, fun F2 H2 s1 s2 => SqT.of (s2 _ _ (s1 _ _ h)), fun i F2 H2 x H3 d w s1 hd y => ?_⟩
  obtain ⟨e1, e2⟩ := y
  subst e1
  exact ⟨F2, Gr.refl w, (q.got e2 hd).mono s1⟩
/-- a new pair at each turn -/
theorem wd_pair {lf : Option Addr} {F1 : Hp} {J : It} {n : Nat} {G : Hp → Prop} {X Y : Nat → Option V} {A B : Nat → Option PyData} {ds : List PyData} (hn : n = ds.length) (w : Walk J n G (YPair X Y)) (hG : ∀ F2 H2, Same F1 F2 → Same F2 H2 → G H2)
    (hA : ∀ (i : Nat) (d : PyData), ds[i]? = some d → ∃ a b, d = .tuple [a, b] ∧ A i = some a ∧ B i = some b) (hX : ∀ (i : Nat) v a, X i = some v → A i = some a → Dq F1 v a) (hY : ∀ (i : Nat) v a, Y i = some v → B i = some a → Dq F1 v a) : WalkD g lf F1 J ds := by
  subst hn
  refine ⟨_, _, w, hG, fun i F2 H2 x H3 d wl s1 hd y => ?_⟩
  obtain ⟨T, u, v, rfl, hT, rfl, hu, hv⟩ := y
  obtain ⟨a, b, rfl, ha, hb⟩ := hA i d hd
  refine ⟨_, Gr.new wl hT, Dq.tup upd_same ?_⟩
  have ff := (Gr.new (o := .tup [u, v]) wl hT).ff
  exact .cons (((hX i u a hu ha).mono s1).mono ff) (.cons (((hY i v b hv hb).mono s1).mono ff) .nil)
def enumD (ds : List PyData) : List PyData := ds.mapIdx fun i d => .tuple [.int (i : Int), d]
theorem enumD_get (ds : List PyData) (i : Nat) : (enumD ds)[i]? = ds[i]?.map fun d => .tuple [.int (i : Int), d] := by
  unfold enumD
  rw [List.getElem?_mapIdx]
theorem wd_enum {lf : Option Addr} {F1 : Hp} {a : Addr} {vs : List V} {ds : List PyData} (h : F1 a = some (.lst vs)) (q : DqAll F1 vs ds) : WalkD g lf F1 (Ite K a) (enumD ds) := by
  refine wd_pair (n := vs.length) (A := fun i => some (.int (i : Int))) (B := fun i => ds[i]?) (by rw [q.length]; unfold enumD; rw [List.length_mapIdx]) walk_enum (fun F2 H2 s1 s2 => SqL.of (s2 _ _ (s1 _ _ h))) (fun i d hd => ?_) (fun i v a h1 h2 => ?_) (fun i v a h1 h2 => q.got h1 h2)
  · rw [enumD_get] at hd
    cases e : ds[i]? with
    | none => rw [e] at hd; cases hd
    | some d' =>
      rw [e] at hd
      exact ⟨_, d', (Option.some.inj hd).symm, rfl, rfl⟩
  · cases h1
    cases h2
    exact .int _
def zipD (ds es : List PyData) : List PyData := List.zipWith (fun a b => .tuple [a, b]) ds es
theorem wd_zip {lf : Option Addr} {F1 : Hp} {a b : Addr} {vs us : List V} {ds es : List PyData} (h : F1 a = some (.lst vs)) (q : DqAll F1 vs ds) (h2 : F1 b = some (.lst us)) (q2 : DqAll F1 us es) : WalkD g lf F1 (Itz K a b) (zipD ds es) := by
  refine wd_pair (n := min vs.length us.length) (A := fun i => ds[i]?) (B := fun i => es[i]?) (by rw [q.length, q2.length]; unfold zipD; rw [List.length_zipWith]) (walk_zip rfl) (fun F2 H2 s1 s2 => ⟨SqL.of (s2 _ _ (s1 _ _ h)), SqL.of (s2 _ _ (s1 _ _ h2))⟩) (fun i d hd => ?_) (fun i v a h1 h2 => q.got h1 h2) (fun i v a h1 h2 => q2.got h1 h2)
  unfold zipD at hd
  rw [List.getElem?_zipWith] at hd
  cases e1 : ds[i]? with
  | none => rw [e1] at hd; cases hd
  | some d1 =>
    cases e2 : es[i]? with
    | none => rw [e1, e2] at hd; cases hd
    | some d2 =>
      rw [e1, e2] at hd
      exact ⟨d1, d2, (Option.some.inj hd).symm, rfl, rfl⟩
def rangeD (lo : Int) (n : Nat) : List PyData := (List.range n).map fun (i : Nat) => .int (lo + i)
theorem rangeD_length (lo : Int) (n : Nat) : (rangeD lo n).length = n := by unfold rangeD; rw [List.length_map, List.length_range]
theorem rangeD_get {lo : Int} {n i : Nat} {d : PyData} (h : (rangeD lo n)[i]? = some d) : d = .int (lo + i) ∧ i < n := by
  have hi : i < n := by
    have h3 := (List.getElem?_eq_some_iff.mp h).1
    rwa [rangeD_length] at h3
  unfold rangeD at h
  rw [List.getElem?_map, List.getElem?_range hi] at h
  exact ⟨(Option.some.inj h).symm, hi⟩
theorem wd_range {lf : Option Addr} {F1 : Hp} {lo : Int} {n : Nat} : WalkD g lf F1 (Itr lo n) (rangeD lo n) := by
  refine ⟨_, _, by rw [rangeD_length]; exact walk_range, fun _ _ _ _ => trivial, fun i F2 H2 x H3 d w s1 hd y => ?_⟩
  obtain ⟨e1, e2⟩ := y
  subst e1 e2
  rw [(rangeD_get hd).1]
  exact ⟨F2, Gr.refl w, .int _⟩
theorem itp_list {PD : List PyData → Prop} (h : EvP g te ρ (fun x => ∃ ds, x = .d (.list ds) ∧ PD ds)) : ItP g (iList K te) ρ PD := fun e σ F H E R r => h e σ F H E _ fun v F1 H1 x r1 rx p => by
  obtain ⟨ds, rfl, pd⟩ := p
  obtain ⟨a, vs, rfl, h1, q⟩ := Dq.lst_of rx
  exact ⟨a, rfl, ⟨vs, SqL.of (r1.wl.same _ _ h1)⟩, r _ F1 H1 ds r1 pd (wd_list h1 q)⟩
theorem it_list {ds : List PyData} (h : Ev g te ρ (.d (.list ds))) : ItP g (iList K te) ρ (fun y => y = ds) := itp_list (h.imp fun x e => ⟨ds, e, rfl⟩)
theorem it_tup {ds : List PyData} (h : Ev g te ρ (.d (.tuple ds))) : ItP g (iTup K te) ρ (fun y => y = ds) := fun e σ F H E R r => h e σ F H E _ fun v F1 H1 x r1 rx p => by
  subst p
  obtain ⟨a, vs, rfl, h1, q⟩ := Dq.tup_of rx
  exact ⟨a, rfl, ⟨vs, SqT.of (r1.wl.same _ _ h1)⟩, r _ F1 H1 ds r1 rfl (wd_tup h1 q)⟩
theorem it_enum {ds : List PyData} (h : Ev g te ρ (.d (.list ds))) : ItP g (iEnum K (tCons te tNil)) ρ (fun y => y = enumD ds) := fun e σ F H E R r => h e σ F H E _ fun v F1 H1 x r1 rx p => by
  subst p
  obtain ⟨a, vs, rfl, h1, q⟩ := Dq.lst_of rx
  exact ⟨a, vs, rfl, SqL.of (r1.wl.same _ _ h1), r _ F1 H1 _ r1 rfl (wd_enum h1 q)⟩
theorem it_zip {ds es : List PyData} (h : Ev g ta ρ (.d (.list ds))) (h2 : Ev g tb ρ (.d (.list es))) : ItP g (iZip K (tCons ta (tCons tb tNil))) ρ (fun y => y = zipD ds es) := fun e σ F H E R r => h e σ F H E _ fun v F1 H1 x r1 rx p => h2 e σ F1 H1 (E.grow r1) _ fun w F2 H2 x2 r2 rx2 p2 => by
  subst p p2
  obtain ⟨a, vs, rfl, h1, q⟩ := Dq.lst_of rx
  obtain ⟨b, us, rfl, h3, q3⟩ := Dq.lst_of rx2
  have s := r2.ff _ _ h1
  exact ⟨a, b, vs, us, rfl, SqL.of (r2.wl.same _ _ s), SqL.of (r2.wl.same _ _ h3), r _ F2 H2 _ (r1.step E r2) rfl (wd_zip s (q.mono r2.ff) h3 q3)⟩
theorem itp_range1 {Pn : Nat → Prop} (h : EvP g te ρ (fun x => ∃ n : Nat, x = .d (.int (n : Int)) ∧ n < 2 ^ 62 ∧ Pn n)) : ItP g (iRng1 (tCons te tNil)) ρ (fun y => ∃ n, y = rangeD 0 n ∧ Pn n) := fun e σ F H E R r => h e σ F H E _ fun v F1 H1 x r1 rx p => by
  obtain ⟨n, rfl, hn, pn⟩ := p
  rw [Dq.int_eq rx]
  refine ⟨n, rfl, by omega, by omega, r _ F1 H1 (rangeD 0 n) r1 ⟨n, rfl, pn⟩ ?_⟩
  rw [Int.toNat_natCast]
  exact wd_range
theorem it_range1 {n : Nat} (h : Ev g te ρ (.d (.int (n : Int)))) (hn : n < 2 ^ 62) : ItP g (iRng1 (tCons te tNil)) ρ (fun y => y = rangeD 0 n) := fun e σ F H E R r =>
  itp_range1 (Pn := fun m => m = n) (h.imp fun x e => ⟨n, e, hn, rfl⟩) e σ F H E R fun J F1 H1 ds r1 p w => r J F1 H1 ds r1 (by obtain ⟨m, e1, e2⟩ := p; rw [e1, e2]) w
theorem it_range2 {lo hi : Int} (h : Ev g ta ρ (.d (.int lo))) (h2 : Ev g tb ρ (.d (.int hi))) (hn : -(2 ^ 62) ≤ lo ∧ lo < 2 ^ 62 ∧ -(2 ^ 62) ≤ hi ∧ hi < 2 ^ 62) : ItP g (iRng2 (tCons ta (tCons tb tNil))) ρ (fun y => y = rangeD lo (hi - lo).toNat) := fun e σ F H E R r => h e σ F H E _ fun v F1 H1 x r1 rx p => h2 e σ F1 H1 (E.grow r1) _ fun w F2 H2 x2 r2 rx2 p2 => by
  subst p p2
  rw [Dq.int_eq rx, Dq.int_eq rx2]
  exact ⟨lo, hi, rfl, hn, r _ F2 H2 _ (r1.step E r2) rfl wd_range⟩
/-! ### targets -/
theorem tg_name {i : Nat} (hz : ∀ xs, x ≠ .own xs) : TgP g (gName i) ρ x [i] (ρ.set i (some x)) := fun e σ F H v E rx Q q =>
  q _ (E.set rx hz) List.length_set fun j hj => List.getElem?_set_ne (fun z => hj (by rw [z]; exact List.mem_singleton.mpr rfl))
theorem tg_d {i : Nat} {d : PyData} : TgP g (gName i) ρ (.d d) [i] (ρ.set i (some (.d d))) := tg_name fun _ z => nomatch z
def TgsP (g : Gb) (tg : TGs) (ρ : Rho) (ds : List PyData) (js : List Nat) (ρ' : Rho) : Prop := ∀ (e : En) (σ : St) (F H : Hp) (vs : List V), Ew g e σ F H ρ → DqAll F vs ds → ∀ Q : St → Hp → Prop, (∀ σ', Ew g e σ' F H ρ' → σ'.length = σ.length → (∀ i, i ∉ js → σ'[i]? = σ[i]?) → Q σ' H) → tg vs σ H Q
theorem tgs_nil : TgsP g gNil ρ [] [] ρ := fun e σ F H vs E a Q q => by
  cases a
  exact ⟨rfl, q σ E rfl fun _ _ => rfl⟩
theorem tgs_cons {t : TG} {u : TGs} {d : PyData} {ds : List PyData} {js ks : List Nat} {ρ1 ρ2 : Rho} (h1 : TgP g t ρ (.d d) js ρ1) (h2 : TgsP g u ρ1 ds ks ρ2) : TgsP g (gCons t u) ρ (d :: ds) (js ++ ks) ρ2 := fun e σ F H vs E a Q q => by
  cases a with
  | cons hd ht =>
    refine ⟨_, _, rfl, h1 e σ F H _ E hd _ fun σ1 E1 l1 k1 => h2 e σ1 F H _ E1 ht Q fun σ2 E2 l2 k2 => q σ2 E2 (l2.trans l1) fun i hi => ?_⟩
    rw [k2 i fun z => hi (List.mem_append_right _ z), k1 i fun z => hi (List.mem_append_left _ z)]
theorem tg_tup {n : Nat} {ts : TGs} {ds : List PyData} {js : List Nat} (h : TgsP g ts ρ ds js ρ') (hn : ds.length = n) : TgP g (gTup K n ts) ρ (.d (.tuple ds)) js ρ' := fun e σ F H v E rx Q q => by
  obtain ⟨a, vs, rfl, h1, h2⟩ := Dq.tup_of rx
  exact ⟨a, vs, rfl, SqT.of (E.wl.same _ _ h1), by rw [h2.length, hn], h e σ F H vs E h2 Q q⟩
/-- a tuple or a list -/
theorem tg_tupL {n : Nat} {ts : TGs} {js : List Nat} {d : PyData} {ds : List PyData} (e : d = .tuple ds) (h : TgsP g ts ρ ds js ρ') (hn : ds.length = n) : TgP g (gTup K n ts) ρ (.d d) js ρ' := by rw [e]; exact tg_tup h hn
/-! ### comprehensions -/
def wipeR (ρ : Rho) : List Nat → Rho
  | [] => ρ
  | v :: vs => (wipeR ρ vs).set v none
theorem wipeR_length (ρ : Rho) : ∀ vs, (wipeR ρ vs).length = ρ.length
  | [] => rfl
  | v :: vs => by unfold wipeR; rw [List.length_set, wipeR_length ρ vs]
theorem wipeR_some {ρ : Rho} {i : Nat} {x : Dx} : ∀ {vs : List Nat}, (wipeR ρ vs)[i]? = some (some x) → ρ[i]? = some (some x) ∧ i ∉ vs
  | [], h => ⟨h, by simp⟩
  | v :: vs, h => by
    unfold wipeR at h
    by_cases hv : v = i
    · subst hv
      by_cases hl : v < (wipeR ρ vs).length
      · rw [List.getElem?_set_self hl] at h
        cases h
      · rw [List.getElem?_eq_none (by rw [List.length_set]; omega)] at h
        cases h
    · rw [List.getElem?_set_ne hv] at h
      obtain ⟨h1, h2⟩ := wipeR_some h
      exact ⟨h1, fun z => (List.mem_cons.mp z).elim (fun y => hv y.symm) h2⟩
theorem Ew.wipe {e : En} {σ : St} {F H : Hp} (E : Ew g e σ F H ρ) (vs : List Nat) : Ew g e (wipe σ vs) F H (wipeR ρ vs) := by
  refine ⟨E.gr, E.w0, by rw [wipe_length, wipeR_length]; exact E.ln, fun i x h => ?_, fun i j xs ys n h1 h2 => ?_⟩
  · obtain ⟨h1, h2⟩ := wipeR_some h
    rw [wipe_out h2]
    exact E.bd i x h1
  · obtain ⟨a1, a2⟩ := wipeR_some h1
    obtain ⟨b1, b2⟩ := wipeR_some h2
    rw [wipe_out a2, wipe_out b2]
    exact E.dj i j xs ys n a1 b1
theorem wipe_in {σ : St} {i : Nat} : ∀ {vs : List Nat}, i ∈ vs → i < σ.length → (wipe σ vs)[i]? = some none
  | v :: vs, h, hi => by
    unfold wipe
    by_cases hv : v = i
    · subst hv
      rw [List.getElem?_set_self (by rw [wipe_length]; exact hi)]
    · rw [List.getElem?_set_ne hv]
      exact wipe_in ((List.mem_cons.mp h).resolve_left fun z => hv z.symm) hi
theorem wipe_eq {a b : St} {vs : List Nat} (hl : a.length = b.length) (h : ∀ i, i ∉ vs → a[i]? = b[i]?) : wipe a vs = wipe b vs := by
  apply List.ext_getElem?
  intro i
  by_cases hi : i ∈ vs
  · by_cases hl2 : i < b.length
    · rw [wipe_in hi (by rw [hl]; exact hl2), wipe_in hi hl2]
    · rw [List.getElem?_eq_none (by rw [wipe_length]; omega), List.getElem?_eq_none (by rw [wipe_length]; omega)]
  · rw [wipe_out hi, wipe_out hi, h i hi]
theorem evp_lc {wi : TI} {tg : TG} {vs : List Nat} {PD : List PyData → Prop} (hw : ItP g wi ρ PD) (I : List PyData → Nat → List PyData → Prop) (h0 : ∀ ds, PD ds → ds.length ≤ 1000000 ∧ I ds 0 [])
    (hs : ∀ ds i d acc, PD ds → ds[i]? = some d → I ds i acc → ∃ js ρ1 Pb, TgP g tg (wipeR ρ vs) (.d d) js ρ1 ∧ (∀ j ∈ js, j ∈ vs) ∧ EvT g tt ρ1 Pb ∧ (Pb true → EvP g te ρ1 (fun x => ∃ d', x = .d d' ∧ I ds (i + 1) (acc ++ [d']))) ∧ (Pb false → I ds (i + 1) acc))
    (hd : ∀ ds acc, PD ds → I ds ds.length acc → P (.d (.list acc))) : EvP g (tLc wi tg tt te vs) ρ P := fun e σ F H E Q q => hw e σ F H E _ fun J F1 H1 ds r1 pd wd => by
  intro D hD
  obtain ⟨G, Y, W, hG, hY⟩ := wd
  have E1 := E.grow r1
  have r2 : Gr g e.lf F1 H1 F1 (upd H1 D (.lst [])) := Gr.newH E1.wl hD
  obtain ⟨hlen, i0⟩ := h0 ds pd
  have F1D : F1 D = none := E1.wl.F_none hD
  refine lc_it W (fun i H' => ∃ F' accV acc, Gr g e.lf F1 H1 F' H' ∧ F' D = none ∧ H' D = some (.lst accV) ∧ DqAll F' accV acc ∧ acc.length ≤ i ∧ I ds i acc) ⟨F1, [], [], r2, F1D, upd_same, .nil, Nat.le_refl _, i0⟩ (fun i H' hi p => ?_) (fun i x H' H3 hi p y => ?_) fun H' p => ?_
  · obtain ⟨F', accV, acc, r, f, hh, a, l, ii⟩ := p
    exact hG F' H' r.ff r.wl.same
  · obtain ⟨F', accV, acc, r, f, hh, a, l, ii⟩ := p
    have hdi : ds[i]? = some ds[i] := List.getElem?_eq_getElem hi
    obtain ⟨F3, r3, dx⟩ := hY i F' H' x H3 ds[i] r.wl r.ff hdi y
    obtain ⟨js, ρ1, Pb, htg, hjs, htt, hy, hn⟩ := hs ds i ds[i] acc pd hdi ii
    have Dne : D ≠ g.T := E1.wl.T_ne hD
    have Dlf : e.lf ≠ some D := E1.wl.lf_ne hD
    have rA : Gr g e.lf F1 H1 F3 H3 := r.trans E1.wl r3
    have EA : Ew g e (wipe σ vs) F3 H3 (wipeR ρ vs) := (E1.grow rA).wipe vs
    refine htg e (wipe σ vs) F3 H3 x EA dx _ fun σ2 E2 l2 k2 => ⟨wipe_eq (l2.trans (wipe_length σ vs)) fun i hi => (k2 i fun z => hi (hjs i z)).trans (wipe_out hi), ?_⟩
    have hD3 : H3 D = some (.lst accV) := r3.hh D _ Dne Dlf hh
    have fD3 : F3 D = none := r3.nw D _ f hh
    have a3 := a.mono r3.ff
    refine htt e σ2 F3 H3 E2 _ fun b F4 H4 r4 pb => ?_
    cases b with
    | true =>
      refine iteT (hy pb e σ2 F4 H4 (E2.grow r4) _ fun w F5 H5 x5 r5 rx5 p5 => ?_)
      obtain ⟨d', rfl, i5⟩ := p5
      have r45 : Gr g e.lf F3 H3 F5 H5 := r4.step E2 r5
      have hD5 : H5 D = some (.lst accV) := r45.hh D _ Dne Dlf hD3
      have fD5 : F5 D = none := r45.nw D _ fD3 hD3
      refine ⟨accV, hD5, ?_, F5, accV ++ [w], acc ++ [d'], ?_, fD5, upd_same, (a3.mono r45.ff).snoc rx5, by rw [List.length_append, List.length_singleton]; omega, i5⟩
      · rw [a.length]
        exact Nat.lt_of_lt_of_le (show acc.length < 1000001 by omega) (by decide)
      · have r15 : Gr g e.lf F1 H1 F5 H5 := rA.trans E1.wl r45
        refine ⟨r15.ff, fun c o h1 h2 h3 => ?_, r15.wl.write hD5 fD5 Dlf, r15.nw⟩
        rw [upd_ne (ne_of_none h3 hD)]
        exact r15.hh c o h1 h2 h3
    | false =>
      have r14 : Gr g e.lf F1 H1 F4 H4 := rA.trans E1.wl r4
      exact iteF ⟨F4, accV, acc, r14, r4.nw D _ fD3 hD3, r4.hh D _ Dne Dlf hD3, a3.mono r4.ff, by omega, hn pb⟩
  · obtain ⟨F', accV, acc, r, f, hh, a, l, ii⟩ := p
    have Dne : D ≠ g.T := E1.wl.T_ne hD
    have Dlf : e.lf ≠ some D := E1.wl.lf_ne hD
    have wf := r.wl.freeze hh f Dne Dlf
    refine q (.ref D) (upd F' D (.lst accV)) H' (.d (.list acc)) (r1.step E ⟨r.ff.trans (same_upd' f), r.hh, wf, fun c o h1 h2 => ?_⟩) (Dq.lst upd_same (a.mono (same_upd' f))) (hd ds acc pd ii)
    rw [upd_ne (ne_of_none h2 hD)]
    exact r.nw c o h1 h2
/-- where all is told: the items are enc a, the test p a, the element f a -/
theorem ev_lc {α : Type} {wi : TI} {tg : TG} {vs : List Nat} {l : List α} {enc f : α → PyData} {p : α → Bool} (hw : ItP g wi ρ (fun y => y = l.map enc)) (hlen : l.length ≤ 1000000)
    (hs : ∀ a ∈ l, ∃ js ρ1, TgP g tg (wipeR ρ vs) (.d (enc a)) js ρ1 ∧ (∀ j ∈ js, j ∈ vs) ∧ EvB g tt ρ1 (p a) ∧ (p a = true → Ev g te ρ1 (.d (f a)))) : Ev g (tLc wi tg tt te vs) ρ (.d (.list ((l.filter p).map f))) := by
  refine evp_lc hw (fun ds i acc => acc = ((l.take i).filter p).map f) (fun ds e => ?_) (fun ds i d acc e hd ii => ?_) fun ds acc e ii => ?_
  · subst e
    exact ⟨by rw [List.length_map]; exact hlen, rfl⟩
  · subst e
    rw [List.getElem?_map] at hd
    cases ha : l[i]? with
    | none => rw [ha] at hd; cases hd
    | some a =>
      rw [ha] at hd
      cases hd
      obtain ⟨js, ρ1, h1, h2, h3, h4⟩ := hs a (List.mem_of_getElem? ha)
      have et : (l.take (i + 1)).filter p = (l.take i).filter p ++ [a].filter p := by rw [List.take_add_one, ha, Option.toList_some, List.filter_append]
      refine ⟨js, ρ1, _, h1, h2, h3, fun e => (h4 e.symm).imp fun x ex => ⟨_, ex, ?_⟩, fun e => ?_⟩
      · rw [et, ii, List.filter_cons, if_pos e.symm, List.map_append]
        rfl
      · rw [et, ii, List.filter_cons, if_neg (by rw [← e]; exact Bool.false_ne_true)]
        simp
  · subst e
    rw [ii, List.length_map, List.take_length]
theorem et_yes : EvB g tYes ρ true := fun e σ F H E Q q => q true F H (Gr.refl E.wl) rfl
theorem ev_lcA {α : Type} {wi : TI} {tg : TG} {vs : List Nat} {l : List α} {enc f : α → PyData} (hw : ItP g wi ρ (fun y => y = l.map enc)) (hlen : l.length ≤ 1000000)
    (hs : ∀ a ∈ l, ∃ js ρ1, TgP g tg (wipeR ρ vs) (.d (enc a)) js ρ1 ∧ (∀ j ∈ js, j ∈ vs) ∧ Ev g te ρ1 (.d (f a))) : Ev g (tLc wi tg tYes te vs) ρ (.d (.list (l.map f))) := by
  refine (ev_lc (p := fun _ => true) hw hlen fun a ha => ?_).is (by rw [List.filter_eq_self.mpr (fun _ _ => rfl)])
  obtain ⟨js, ρ1, h1, h2, h3⟩ := hs a ha
  exact ⟨js, ρ1, h1, h2, et_yes, fun _ => h3⟩

/-! ### statements -/
variable {ts tu : TS} {po : Po}
theorem Wants.mono {e : En} {F F' : Hp} {D : Ends} (w : Wants g e F po D) (s : Same F F') : Wants g e F' po D :=
  ⟨fun σ' F2 H' ρ' s2 => w.nx σ' F2 H' ρ' (s.trans s2), w.rt, fun σ' F2 H' ρ' s2 => w.bk σ' F2 H' ρ' (s.trans s2), fun σ' F2 H' ρ' s2 => w.ct σ' F2 H' ρ' (s.trans s2)⟩
theorem StP.imp {po' : Po} (h : StP g ts ρ po) (k1 : ∀ r, po.nx r → po'.nx r) (k2 : ∀ r, po.rt r → po'.rt r) (k3 : ∀ r, po.bk r → po'.bk r) (k4 : ∀ r, po.ct r → po'.ct r) : StP g ts ρ po' := fun e σ F H D E w =>
  h e σ F H D E ⟨fun σ' F' H' ρ' s E' p => w.nx σ' F' H' ρ' s E' (k1 _ p), fun v F' H' x r rx p => w.rt v F' H' x r rx (k2 _ p), fun σ' F' H' ρ' s E' p => w.bk σ' F' H' ρ' s E' (k3 _ p), fun σ' F' H' ρ' s E' p => w.ct σ' F' H' ρ' s E' (k4 _ p)⟩
theorem st_seq {M : Rho → Prop} (h1 : StP g ts ρ ⟨M, po.rt, po.bk, po.ct⟩) (h2 : ∀ ρ', M ρ' → StP g tu ρ' po) : StP g (tSeq ts tu) ρ po := fun e σ F H D E w =>
  h1 e σ F H { D with nx := tu D } E ⟨fun σ' F' H' ρ' s E' m => h2 ρ' m e σ' F' H' D E' (w.mono s), w.rt, w.bk, w.ct⟩
theorem st_nx (h : po.nx ρ) : StP g tNext ρ po := fun e σ F H D E w => w.nx σ F H ρ (Same.refl F) E h
/-- x = e -/
theorem st_setP {i : Nat} (h : EvP g te ρ (fun x => x.fz = true ∧ po.nx (ρ.set i (some x)))) : StP g (tAsg te (gName i)) ρ po := fun e σ F H D E w => h e σ F H E _ fun v F1 H1 x r1 rx p =>
  w.nx _ F1 H1 _ r1.ff ((E.grow r1).set rx fun xs z => by rw [z] at p; cases p.1) p.2
theorem st_set {i : Nat} (h : Ev g te ρ x) (hz : x.fz = true := by rfl) (k : po.nx (ρ.set i (some x))) : StP g (tAsg te (gName i)) ρ po := st_setP (h.imp fun y e => by rw [e]; exact ⟨hz, k⟩)
/-- x = e; .. -/
theorem sq_setP {i : Nat} {P : Dx → Prop} (h : EvP g te ρ P) (hz : ∀ x, P x → x.fz = true) (k : ∀ x, P x → StP g tu (ρ.set i (some x)) po) : StP g (tSeq (tAsg te (gName i)) tu) ρ po :=
  st_seq (M := fun ρ' => ∃ x, P x ∧ ρ' = ρ.set i (some x)) (st_setP (h.imp fun x p => ⟨hz x p, x, p, rfl⟩)) fun ρ' m => by
    obtain ⟨x, p, rfl⟩ := m
    exact k x p
theorem sq_set {i : Nat} (h : Ev g te ρ x) (k : StP g tu (ρ.set i (some x)) po) (hz : x.fz = true := by rfl) : StP g (tSeq (tAsg te (gName i)) tu) ρ po :=
  sq_setP h (fun y e => by rw [e]; exact hz) fun y e => by rw [e]; exact k
/-- x = [], a list that the body will change -/
theorem st_own {i : Nat} (k : po.nx (ρ.set i (some (.own [])))) : StP g (tAsg (tLst tNil) (gName i)) ρ po := fun e σ F H D E w => by
  refine ⟨Nat.zero_le _, fun p hp => ?_⟩
  have r : Gr g e.lf F H F (upd H p (.lst [])) := Gr.newH E.wl hp
  have h0 : e.H0 p = none := by
    cases q : e.H0 p with
    | none => rfl
    | some o =>
      have hT : p ≠ g.T := E.wl.T_ne hp
      have hl : e.lf ≠ some p := E.wl.lf_ne hp
      rw [E.gr.hh p o hT hl q] at hp
      cases hp
  refine w.nx _ F _ _ (Same.refl F) ((E.grow r).setOwn (vs := []) ⟨E.wl.F_none hp, h0, E.wl.T_ne hp, E.wl.lf_ne hp, upd_same⟩ .nil fun j ys _ hj z => ?_) k
  obtain ⟨v, hv, l, vs, e1, o, _⟩ := E.bd j _ hj
  subst e1
  rw [z] at hv
  cases hv
  rw [o.h] at hp
  cases hp
theorem sq_own {i : Nat} (k : StP g tu (ρ.set i (some (.own []))) po) : StP g (tSeq (tAsg (tLst tNil) (gName i)) tu) ρ po := st_seq (M := fun r => r = ρ.set i (some (.own []))) (st_own rfl) fun r e => by rw [e]; exact k
/-- x.append(e) -/
theorem st_appP {i : Nat} {ds : List PyData} (hi : ρ[i]? = some (some (.own ds))) (h : EvP g te ρ (fun x => ∃ d, x = .d d ∧ ds.length < 1000000 ∧ po.nx (ρ.set i (some (.own (ds ++ [d])))))) : StP g (tDrop (tBM K "list" rAppend (tVar i) (tCons te tNil))) ρ po := fun e σ F H D E w => by
  obtain ⟨v, hv, l, vs, e1, o, a⟩ := E.bd i _ hi
  subst e1
  refine ⟨.ref l, hv, .inl ⟨rfl, _, SqL.of o.h⟩, h e σ F H E _ fun u F1 H1 x r1 rx p => ?_⟩
  obtain ⟨d, rfl, hz, k⟩ := p
  have E1 := E.grow r1
  have o1 := o.mono r1
  refine ⟨l, vs, u, rfl, rfl, o1.h, ?_, w.nx _ F1 _ _ r1.ff (E1.write hi hv o1.h ((a.mono r1.ff).snoc rx)) k⟩
  rw [a.length]
  exact Nat.lt_of_lt_of_le hz (by decide)
theorem st_app {i : Nat} {ds : List PyData} {d : PyData} (hi : ρ[i]? = some (some (.own ds))) (h : Ev g te ρ (.d d)) (hz : ds.length < 1000000) (k : po.nx (ρ.set i (some (.own (ds ++ [d]))))) : StP g (tDrop (tBM K "list" rAppend (tVar i) (tCons te tNil))) ρ po :=
  st_appP hi (h.imp fun x e => ⟨d, e, hz, k⟩)
theorem sq_app {i : Nat} {ds : List PyData} {d : PyData} (hi : ρ[i]? = some (some (.own ds))) (h : Ev g te ρ (.d d)) (hz : ds.length < 1000000) (k : StP g tu (ρ.set i (some (.own (ds ++ [d])))) po) : StP g (tSeq (tDrop (tBM K "list" rAppend (tVar i) (tCons te tNil))) tu) ρ po :=
  st_seq (M := fun r => r = ρ.set i (some (.own (ds ++ [d])))) (st_app hi h hz rfl) fun r e => by rw [e]; exact k
/-- what a body's own list is, told as data from here on -/
theorem st_freeze {i : Nat} {ds : List PyData} (hi : ρ[i]? = some (some (.own ds))) (k : StP g ts (ρ.set i (some (.d (.list ds)))) po) : StP g ts ρ po := fun e σ F H D E w => by
  obtain ⟨F', s, E'⟩ := E.freeze hi
  exact k e σ F' H D E' (w.mono s)
theorem st_weak {ρ1 : Rho} (hl : ρ1.length = ρ.length) (h : ∀ (i : Nat) x, ρ1[i]? = some (some x) → ρ[i]? = some (some x)) (k : StP g ts ρ1 po) : StP g ts ρ po := fun e σ F H D E w => k e σ F H D (E.weak hl h) w
/-- return e -/
theorem st_retP (h : EvP g te ρ (fun x => x.fz = true ∧ po.rt x)) : StP g (tRet te) ρ po := fun e σ F H D E w => h e σ F H E _ fun v F1 H1 x r1 rx p => w.rt v F1 H1 x (E.grow r1).gr (rx.fx p.1) p.2
theorem st_ret (h : Ev g te ρ x) (k : po.rt x) (hz : x.fz = true := by rfl) : StP g (tRet te) ρ po := st_retP (h.imp fun y e => by rw [e]; exact ⟨hz, k⟩)
/-- return x, x a list of the body's own -/
theorem st_retOwn {i : Nat} {ds : List PyData} (hi : ρ[i]? = some (some (.own ds))) (k : po.rt (.d (.list ds))) : StP g (tRet (tVar i)) ρ po := st_freeze hi (st_ret (x := .d (.list ds)) (ev_var (by rw [List.getElem?_set_self (List.getElem?_eq_some_iff.mp hi).1])) k)
theorem st_if {P1 : Bool → Prop} (h : EvT g tt ρ P1) (h1 : P1 true → StP g ts ρ po) (h2 : P1 false → StP g tu ρ po) : StP g (tIfS tt ts tu) ρ po := fun e σ F H D E w => h e σ F H E _ fun b F1 H1 r1 p1 => by
  cases b with
  | true => exact iteT (h1 p1 e σ F1 H1 D (E.grow r1) (w.mono r1.ff))
  | false => exact iteF (h2 p1 e σ F1 H1 D (E.grow r1) (w.mono r1.ff))
theorem st_ifB {b : Bool} (h : EvB g tt ρ b) (h1 : b = true → StP g ts ρ po) (h2 : b = false → StP g tu ρ po) : StP g (tIfS tt ts tu) ρ po := st_if h (fun e => h1 e.symm) fun e => h2 e.symm
/-- if t: A else: B; rest (the rest is shown behind each) -/
theorem sq_if {tz : TS} {P1 : Bool → Prop} (h : EvT g tt ρ P1) (h1 : P1 true → StP g (tSeq ts tz) ρ po) (h2 : P1 false → StP g (tSeq tu tz) ρ po) : StP g (tSeq (tIfS tt ts tu) tz) ρ po := fun e σ F H D E w => h e σ F H E _ fun b F1 H1 r1 p1 => by
  cases b with
  | true => exact iteT (h1 p1 e σ F1 H1 D (E.grow r1) (w.mono r1.ff))
  | false => exact iteF (h2 p1 e σ F1 H1 D (E.grow r1) (w.mono r1.ff))
theorem sq_ifB {tz : TS} {b : Bool} (h : EvB g tt ρ b) (h1 : b = true → StP g (tSeq ts tz) ρ po) (h2 : b = false → StP g (tSeq tu tz) ρ po) : StP g (tSeq (tIfS tt ts tu) tz) ρ po := sq_if h (fun e => h1 e.symm) fun e => h2 e.symm
/-- if t: return ..; rest -/
theorem sq_nx {tz : TS} (h : StP g tz ρ po) : StP g (tSeq tNext tz) ρ po := h
theorem sq_no {tz : TS} {b : Bool} (h : EvB g tt ρ b) (hb : b = false) (k : StP g tz ρ po) : StP g (tSeq (tIfS tt ts tNext) tz) ρ po := sq_ifB h (fun e => by rw [hb] at e; cases e) fun _ => k
theorem sq_ret {tz : TS} (h : StP g (tRet te) ρ ⟨fun _ => False, po.rt, po.bk, po.ct⟩) : StP g (tSeq (tRet te) tz) ρ po := st_seq (M := fun _ => False) h fun _ z => z.elim
theorem st_drop (h : EvP g te ρ (fun _ => True)) (k : po.nx ρ) : StP g (tDrop te) ρ po := fun e σ F H D E w => h e σ F H E _ fun v F1 H1 x r1 rx p => w.nx σ F1 H1 ρ r1.ff (E.grow r1) k
/-- target = e -/
theorem st_asg {tg : TG} {P : Dx → Prop} (h : EvP g te ρ P) (k : ∀ x, P x → ∃ js ρ1, TgP g tg ρ x js ρ1 ∧ po.nx ρ1) : StP g (tAsg te tg) ρ po := fun e σ F H D E w => h e σ F H E _ fun v F1 H1 x r1 rx p => by
  obtain ⟨js, ρ1, ht, hn⟩ := k x p
  exact ht e σ F1 H1 v (E.grow r1) rx _ fun σ' E' _ _ => w.nx σ' F1 H1 ρ1 r1.ff E' hn
theorem sq_asg {tg : TG} {P : Dx → Prop} (h : EvP g te ρ P) (k : ∀ x, P x → ∃ js ρ1, TgP g tg ρ x js ρ1 ∧ StP g tu ρ1 po) : StP g (tSeq (tAsg te tg) tu) ρ po :=
  st_seq (M := fun r => StP g tu r po) (st_asg h k) fun r e => e
/-- a, b = x, y -/
theorem st_par {i j : Nat} {ta : TA} {a b : Dx} (h : EvA g ta ρ (fun l => l = [a, b])) (ha : a.fz = true := by rfl) (hb : b.fz = true := by rfl) (k : po.nx ((ρ.set i (some a)).set j (some b))) : StP g (tPar i j ta) ρ po := fun e σ F H D E w => h e σ F H E _ fun vs F1 H1 xs r1 rx p => by
  subst p
  cases rx with
  | cons r2 rr =>
    cases rr with
    | cons r3 rr =>
      cases rr
      exact ⟨_, _, rfl, w.nx _ F1 H1 _ r1.ff (((E.grow r1).set r2 fun xs z => by rw [z] at ha; cases ha).set r3 fun xs z => by rw [z] at hb; cases hb) k⟩
theorem sq_par {i j : Nat} {ta : TA} {a b : Dx} (h : EvA g ta ρ (fun l => l = [a, b])) (k : StP g tu ((ρ.set i (some a)).set j (some b)) po) (ha : a.fz = true := by rfl) (hb : b.fz = true := by rfl) : StP g (tSeq (tPar i j ta) tu) ρ po :=
  st_seq (M := fun r => r = (ρ.set i (some a)).set j (some b)) (st_par h ha hb rfl) fun r e => by rw [e]; exact k
/-- for target in ..: I by the turn -/
theorem st_for {wi : TI} {tg : TG} {PD : List PyData → Prop} (hw : ItP g wi ρ PD) (I : List PyData → Nat → Rho → Prop) (h0 : ∀ ds, PD ds → I ds 0 ρ)
    (hs : ∀ ds (i : Nat) d ρ1, PD ds → ds[i]? = some d → I ds i ρ1 → ∃ js ρ2, TgP g tg ρ1 (.d d) js ρ2 ∧ StP g ts ρ2 ⟨I ds (i + 1), po.rt, po.nx, I ds (i + 1)⟩) (hd : ∀ ds ρ1, PD ds → I ds ds.length ρ1 → po.nx ρ1) : StP g (tFor wi tg ts) ρ po := fun e σ F H D E w => hw e σ F H E _ fun J F1 H1 ds r1 pd wd => by
  obtain ⟨G, Y, W, hG, hY⟩ := wd
  refine for_it W (fun i σ' H' => ∃ F' ρ1, Same F1 F' ∧ Ew g e σ' F' H' ρ1 ∧ I ds i ρ1) ⟨F1, ρ, Same.refl F1, E.grow r1, h0 ds pd⟩ (fun i σ' H' hi p => ?_) (fun i x σ' H' H3 hi p y => ?_) fun σ' H' p => ?_
  · obtain ⟨F', ρ1, s, E', ii⟩ := p
    exact hG F' H' s E'.wl.same
  · obtain ⟨F', ρ1, s, E', ii⟩ := p
    have hdi : ds[i]? = some ds[i] := List.getElem?_eq_getElem hi
    obtain ⟨F3, r3, dx⟩ := hY i F' H' x H3 ds[i] E'.wl s hdi y
    obtain ⟨js, ρ2, ht, hb⟩ := hs ds i ds[i] ρ1 pd hdi ii
    refine ht e σ' F3 H3 x (E'.grow r3) dx _ fun σ2 E2 _ _ => hb e σ2 F3 H3 _ E2 ⟨fun σ4 F4 H4 ρ4 s4 E4 p4 => ?_, w.rt, fun σ4 F4 H4 ρ4 s4 E4 p4 => ?_, fun σ4 F4 H4 ρ4 s4 E4 p4 => ?_⟩
    · exact ⟨F4, ρ4, (s.trans r3.ff).trans s4, E4, p4⟩
    · exact w.nx σ4 F4 H4 ρ4 (((r1.ff.trans s).trans r3.ff).trans s4) E4 p4
    · exact ⟨F4, ρ4, (s.trans r3.ff).trans s4, E4, p4⟩
  · obtain ⟨F', ρ1, s, E', ii⟩ := p
    exact w.nx σ' F' H' ρ1 (r1.ff.trans s) E' (hd ds ρ1 pd ii)
/-- while t: W with a measure -/
theorem st_while (W : Nat → Rho → Prop) (m0 : Nat) (h0 : W m0 ρ) (hs : ∀ m ρ1, W m ρ1 → ∃ Pb, EvT g tt ρ1 Pb ∧ (Pb true → StP g ts ρ1 ⟨fun r => ∃ m', m' < m ∧ W m' r, po.rt, po.nx, fun r => ∃ m', m' < m ∧ W m' r⟩) ∧ (Pb false → po.nx ρ1)) : StP g (tWhile tt ts) ρ po := fun e σ F H D E w => by
  refine ⟨fun m σ' H' => ∃ F' ρ1, Same F F' ∧ Ew g e σ' F' H' ρ1 ∧ W m ρ1, ⟨m0, F, ρ, Same.refl F, E, h0⟩, fun m σ' H' p => ?_⟩
  obtain ⟨F', ρ1, s, E', ww⟩ := p
  obtain ⟨Pb, ht, h1, h2⟩ := hs m ρ1 ww
  refine ht e σ' F' H' E' _ fun b F2 H2 r2 pb => ?_
  cases b with
  | true =>
    refine iteT ⟨fun σ3 H3 => ∃ m', m' < m ∧ ∃ F3 ρ3, Same F F3 ∧ Ew g e σ3 F3 H3 ρ3 ∧ W m' ρ3, fun σ3 H3 z => z, h1 pb e σ' F2 H2 _ (E'.grow r2) ⟨fun σ4 F4 H4 ρ4 s4 E4 p4 => ?_, w.rt, fun σ4 F4 H4 ρ4 s4 E4 p4 => ?_, fun σ4 F4 H4 ρ4 s4 E4 p4 => ?_⟩⟩
    · obtain ⟨m', hm, w4⟩ := p4
      exact ⟨m', hm, F4, ρ4, (s.trans r2.ff).trans s4, E4, w4⟩
    · exact w.nx σ4 F4 H4 ρ4 ((s.trans r2.ff).trans s4) E4 p4
    · obtain ⟨m', hm, w4⟩ := p4
      exact ⟨m', hm, F4, ρ4, (s.trans r2.ff).trans s4, E4, w4⟩
  | false => exact iteF (w.nx σ' F2 H2 ρ1 (s.trans r2.ff) (E'.grow r2) (h2 pb))

/-! ### defs -/
def ArgR (g : Gb) (lf : Option Addr) (F : Hp) (v : V) : Dx → Prop
  | .feed => ∃ l, v = .ref l ∧ lf = some l
  | x => Fx g.K F v x
inductive ArgAll (g : Gb) (lf : Option Addr) (F : Hp) : List V → List Dx → Prop
  | nil : ArgAll g lf F [] []
  | cons {v : V} {vs : List V} {x : Dx} {xs : List Dx} : ArgR g lf F v x → ArgAll g lf F vs xs → ArgAll g lf F (v :: vs) (x :: xs)
theorem ArgAll.length {lf : Option Addr} {F : Hp} : ∀ {vs : List V} {xs : List Dx}, ArgAll g lf F vs xs → vs.length = xs.length
  | _, _, .nil => rfl
  | _, _, .cons _ a => congrArg (· + 1) a.length
theorem ArgAll.get {lf : Option Addr} {F : Hp} : ∀ {vs : List V} {xs : List Dx} {i : Nat} {x : Dx}, ArgAll g lf F vs xs → xs[i]? = some x → ∃ v, vs[i]? = some v ∧ ArgR g lf F v x
  | _, _, _, _, .nil, h => by simp at h
  | _, _, 0, _, .cons h _, e => by
    simp at e
    subst e
    exact ⟨_, rfl, h⟩
  | _, _, i + 1, x, .cons _ a, e => by
    obtain ⟨v, h1, h2⟩ := ArgAll.get (i := i) (x := x) a (by simpa using e)
    exact ⟨v, by simpa using h1, h2⟩
theorem ArgR.rx {e : En} {F H : Hp} {v : V} (h : ArgR g e.lf F v x) : Rx g e F H v x := by
  cases x with
  | d x => exact h
  | net n rs => exact h
  | news n rs ms hs => exact h
  | feed => exact h
  | own xs => exact h.elim
theorem ArgR.of {e : En} {F H : Hp} {v : V} (h : Rx g e F H v x) (hx : ∀ xs, x ≠ .own xs) : ArgR g e.lf F v x := by
  cases x with
  | d x => exact h
  | net n rs => exact h
  | news n rs ms hs => exact h
  | feed => exact h
  | own xs => exact absurd rfl (hx xs)
/-- what a def promises: S xs P: called with xs it gives something of which P holds -/
abbrev SpD := List Dx → (Dx → Prop) → Prop
def spOf (g : Gb) (S : SpD) : Sp := fun vs H Q _ => ∃ lf F xs P, Wl g lf F H ∧ ArgAll g lf F vs xs ∧ S xs P ∧ ∀ v F' H' x, Gr g lf F H F' H' → Fx g.K F' v x → P x → Q v H'
theorem RxAll.args {e : En} {F H : Hp} : ∀ {vs : List V} {xs : List Dx}, RxAll g e F H vs xs → (∀ x ∈ xs, ∀ ys, x ≠ Dx.own ys) → ArgAll g e.lf F vs xs
  | _, _, .nil, _ => .nil
  | _, _, .cons h a, k => .cons (ArgR.of h (k _ List.mem_cons_self)) (RxAll.args a fun x hx => k x (List.mem_cons_of_mem _ hx))
def noOwn : List Dx → Bool
  | [] => true
  | .own _ :: _ => false
  | _ :: l => noOwn l
theorem noOwn_ok : ∀ {l : List Dx}, noOwn l = true → ∀ x ∈ l, ∀ ys, x ≠ Dx.own ys
  | [], _, x, hx, _ => by cases hx
  | y :: l, h, x, hx, ys => by
    rcases List.mem_cons.mp hx with e | e
    · subst e
      intro z
      subst z
      cases h
    · have h2 : noOwn l = true := by
        cases y <;> first | exact h | cases h
      exact noOwn_ok h2 x e ys
theorem evp_call {S : SpD} {t : TA} {E0 : XK} {PA : List Dx → Prop} (ha : EvA g t ρ PA) (k : ∀ xs, PA xs → noOwn xs = true ∧ S xs P) : EvP g (tCall (spOf g S) [] E0 t) ρ P := fun e σ F H E Q q => ha e σ F H E _ fun vs F1 H1 xs r1 rx p => by
  obtain ⟨h1, h2⟩ := k xs p
  rw [List.append_nil]
  exact ⟨e.lf, F1, xs, P, r1.wl, rx.args (noOwn_ok h1), h2, fun v F' H' x r2 fx px => q v F' H' x (r1.step E r2) (Fx.rx fx.fz fx) px⟩
theorem ev_call {S : SpD} {t : TA} {E0 : XK} {xs : List Dx} (ha : EvA g t ρ (fun y => y = xs)) (h : S xs P) (hn : noOwn xs = true := by rfl) : EvP g (tCall (spOf g S) [] E0 t) ρ P := evp_call ha fun y e => by rw [e]; exact ⟨hn, h⟩
/-- o.m(..) -/
theorem ev_methNews {S : SpD} {t : TA} {E0 : XK} {m : Str} {xs : List Dx} {h : Nat} {rs ms hs : List PyData} (ho : Ev g ta ρ (.news h rs ms hs)) (hm : ([("net", V.non), ("told", V.non), ("heard", V.non)] : List (Str × V)).lookup m = none) (ha : EvA g t ρ (fun y => y = xs)) (hS : S (.news h rs ms hs :: xs) P) (hn : noOwn xs = true := by rfl) :
    EvP g (tMeth (He.ga g.K "News") m (spOf g S) [] E0 ta t) ρ P := fun e σ F H E Q q => ho e σ F H E _ fun v F0 H0 x r0 rx0 p0 => by
  subst p0
  obtain ⟨a, rfl, dx, n, v1, v2, h1, h2, h3, h4⟩ := rx0
  refine ⟨a, dx, _, rfl, r0.wl.same _ _ h1, ?_, ha e σ F0 H0 (E.grow r0) _ fun vs F1 H1 ys r1 rx p => ?_⟩
  · have key : ∀ (a b c : V), ([("net", a), ("told", b), ("heard", c)] : List (Str × V)).lookup m = none := fun a b c => by
      simp only [List.lookup] at hm ⊢
      revert hm
      cases (m == ("net" : Str)) <;> cases (m == ("told" : Str)) <;> cases (m == ("heard" : Str)) <;> intro hm <;> first | rfl | cases hm
    exact key _ _ _
  · subst p
    rw [List.append_nil]
    have rx0' : Rx g e F1 H1 (.ref a) (.news h rs ms hs) := Rx.mono r1 (x := .news h rs ms hs) (F := F0) (H := H0) ⟨a, rfl, dx, n, v1, v2, h1, h2, h3, h4⟩
    refine ⟨e.lf, F1, .news h rs ms hs :: ys, P, r1.wl, .cons rx0' (rx.args (noOwn_ok hn)), hS, fun v F' H' x r2 fx px => q v F' H' x (r0.step E (r1.step (E.grow r0) r2)) (Fx.rx fx.fz fx) px⟩
theorem ev_methNet {S : SpD} {t : TA} {E0 : XK} {m : Str} {xs : List Dx} {h : Nat} {rs : List PyData} (ho : Ev g ta ρ (.net h rs)) (hm : ([("places", V.non), ("built", V.non)] : List (Str × V)).lookup m = none) (ha : EvA g t ρ (fun y => y = xs)) (hS : S (.net h rs :: xs) P) (hn : noOwn xs = true := by rfl) :
    EvP g (tMeth (He.ga g.K "Net") m (spOf g S) [] E0 ta t) ρ P := fun e σ F H E Q q => ho e σ F H E _ fun v F0 H0 x r0 rx0 p0 => by
  subst p0
  obtain ⟨a, rfl, dx, v1, v2, h1, h2, h3⟩ := rx0
  refine ⟨a, dx, _, rfl, r0.wl.same _ _ h1, ?_, ha e σ F0 H0 (E.grow r0) _ fun vs F1 H1 ys r1 rx p => ?_⟩
  · have key : ∀ (a b : V), ([("places", a), ("built", b)] : List (Str × V)).lookup m = none := fun a b => by
      simp only [List.lookup] at hm ⊢
      revert hm
      cases (m == ("places" : Str)) <;> cases (m == ("built" : Str)) <;> intro hm <;> first | rfl | cases hm
    exact key _ _
  · subst p
    rw [List.append_nil]
    have rx0' : Rx g e F1 H1 (.ref a) (.net h rs) := Rx.mono r1 (x := .net h rs) (F := F0) (H := H0) ⟨a, rfl, dx, v1, v2, h1, h2, h3⟩
    refine ⟨e.lf, F1, .net h rs :: ys, P, r1.wl, .cons rx0' (rx.args (noOwn_ok hn)), hS, fun v F' H' x r2 fx px => q v F' H' x (r0.step E (r1.step (E.grow r0) r2)) (Fx.rx fx.fz fx) px⟩
/-- fields -/
theorem ev_built {h : Nat} {rs : List PyData} (hc : Cls g.K (He.ga g.K "Net")) (hn : NoAttr g.K (He.ga g.K "Net") "built") (ho : Ev g ta ρ (.net h rs)) : Ev g (tFld g.K ta "built") ρ (.d (.list rs)) := fun e σ F H E Q q => ho e σ F H E _ fun v F0 H0 x r0 rx0 p0 => by
  subst p0
  obtain ⟨a, rfl, dx, v1, v2, h1, h2, h3⟩ := rx0
  exact ⟨a, _, dx, _, v2, rfl, r0.wl.same _ _ h1, hc, hn, rfl, q v2 F0 H0 _ r0 (rx_d h3) rfl⟩
theorem ev_places {h : Nat} {rs : List PyData} (hc : Cls g.K (He.ga g.K "Net")) (hn : NoAttr g.K (He.ga g.K "Net") "places") (ho : Ev g ta ρ (.net h rs)) : Ev g (tFld g.K ta "places") ρ (.d (.list (intsTo h))) := fun e σ F H E Q q => ho e σ F H E _ fun v F0 H0 x r0 rx0 p0 => by
  subst p0
  obtain ⟨a, rfl, dx, v1, v2, h1, h2, h3⟩ := rx0
  exact ⟨a, _, dx, _, v1, rfl, r0.wl.same _ _ h1, hc, hn, rfl, q v1 F0 H0 _ r0 (rx_d h2) rfl⟩
theorem ev_net {h : Nat} {rs ms hs : List PyData} (hc : Cls g.K (He.ga g.K "News")) (hn : NoAttr g.K (He.ga g.K "News") "net") (ho : Ev g ta ρ (.news h rs ms hs)) : Ev g (tFld g.K ta "net") ρ (.net h rs) := fun e σ F H E Q q => ho e σ F H E _ fun v F0 H0 x r0 rx0 p0 => by
  subst p0
  obtain ⟨a, rfl, dx, n, v1, v2, h1, h2, h3, h4⟩ := rx0
  exact ⟨a, _, dx, _, .ref n, rfl, r0.wl.same _ _ h1, hc, hn, rfl, q _ F0 H0 (.net h rs) r0 ⟨n, rfl, h2⟩ rfl⟩
theorem ev_told {h : Nat} {rs ms hs : List PyData} (hc : Cls g.K (He.ga g.K "News")) (hn : NoAttr g.K (He.ga g.K "News") "told") (ho : Ev g ta ρ (.news h rs ms hs)) : Ev g (tFld g.K ta "told") ρ (.d (.list ms)) := fun e σ F H E Q q => ho e σ F H E _ fun v F0 H0 x r0 rx0 p0 => by
  subst p0
  obtain ⟨a, rfl, dx, n, v1, v2, h1, h2, h3, h4⟩ := rx0
  exact ⟨a, _, dx, _, v1, rfl, r0.wl.same _ _ h1, hc, hn, rfl, q _ F0 H0 _ r0 (rx_d h3) rfl⟩
theorem ev_heard {h : Nat} {rs ms hs : List PyData} (hc : Cls g.K (He.ga g.K "News")) (hn : NoAttr g.K (He.ga g.K "News") "heard") (ho : Ev g ta ρ (.news h rs ms hs)) : Ev g (tFld g.K ta "heard") ρ (.d (.list hs)) := fun e σ F H E Q q => ho e σ F H E _ fun v F0 H0 x r0 rx0 p0 => by
  subst p0
  obtain ⟨a, rfl, dx, n, v1, v2, h1, h2, h3, h4⟩ := rx0
  exact ⟨a, _, dx, _, v2, rfl, r0.wl.same _ _ h1, hc, hn, rfl, q _ F0 H0 _ r0 (rx_d h4) rfl⟩
/-- the slots at a def's entry -/
def startR (N : List Str) (xs : List Dx) : Rho := xs.map some ++ List.replicate (N.length - xs.length) none
theorem ew_start {N : List Str} {lf : Option Addr} {F H : Hp} {vs : List V} {xs : List Dx} (w : Wl g lf F H) (a : ArgAll g lf F vs xs) : Ew g ⟨lf, F, H⟩ (L2.start N vs) F H (startR N xs) := by
  refine ⟨Gr.refl w, w, ?_, fun i x h => ?_, fun i j ys zs n h1 h2 => ?_⟩
  · unfold L2.start startR
    rw [List.length_append, List.length_append, List.length_map, List.length_map, List.length_replicate, List.length_replicate, a.length]
  · have hi : i < xs.length := by
      unfold startR at h
      by_cases hi : i < xs.length
      · exact hi
      · rw [List.getElem?_append_right (by simpa using hi), List.getElem?_replicate] at h
        split at h <;> cases h
    have hx : xs[i]? = some x := by
      unfold startR at h
      rw [List.getElem?_append_left (by simpa using hi), List.getElem?_map] at h
      cases q : xs[i]? with
      | none => rw [q] at h; cases h
      | some y => rw [q] at h; cases h; rfl
    obtain ⟨v, hv, r⟩ := a.get hx
    refine ⟨v, ?_, ArgR.rx (e := ⟨lf, F, H⟩) r⟩
    unfold L2.start
    rw [List.getElem?_append_left (by rw [List.length_map, a.length]; exact hi), List.getElem?_map, hv]
    rfl
  · exfalso
    have hi : i < xs.length := by
      unfold startR at h1
      by_cases hi : i < xs.length
      · exact hi
      · rw [List.getElem?_append_right (by simpa using hi), List.getElem?_replicate] at h1
        split at h1 <;> cases h1
    have hx : xs[i]? = some (.own ys) := by
      unfold startR at h1
      rw [List.getElem?_append_left (by simpa using hi), List.getElem?_map] at h1
      cases q : xs[i]? with
      | none => rw [q] at h1; cases h1
      | some y => rw [q] at h1; cases h1; rfl
    obtain ⟨v, hv, r⟩ := a.get hx
    exact r
/-- a body's reading gives the promise -/
theorem sp_of {S : SpD} {N : List Str} {t : TS} {E : XK} {vs : List V} {H : Hp} {Q : VK} (h : spOf g S vs H Q E) (k : ∀ xs P, S xs P → StP g t (startR N xs) ⟨fun _ => P (.d .none), P, fun _ => False, fun _ => False⟩) : t { nx := fun _ H' => Q .non H', rt := Q } (L2.start N vs) H := by
  obtain ⟨lf, F, xs, P, w, a, s, q⟩ := h
  exact k xs P s ⟨lf, F, H⟩ (L2.start N vs) F H _ (ew_start w a) ⟨fun σ' F' H' ρ' _ E' p => q .non F' H' (.d .none) E'.gr Dq.non p, fun v F' H' x r fx p => q v F' H' x r fx p, fun _ _ _ _ _ _ z => z.elim, fun _ _ _ _ _ _ z => z.elim⟩
theorem sp_len {S : SpD} {n : Nat} (hn : ∀ xs P, S xs P → xs.length = n) : ∀ vs H Q E, spOf g S vs H Q E → vs.length = n := fun vs H Q E h => by
  obtain ⟨lf, F, xs, P, w, a, s, q⟩ := h
  rw [a.length]
  exact hn xs P s
end
end TB
set_option Elab.async false
set_option linter.all false
set_option autoImplicit false
set_option maxRecDepth 100000
set_option maxHeartbeats 4000000
/-! the data layer: what is known of the text; calls of its defs -/
namespace TB
open PySem PySem.Spec PyProof.Rows L2
/-- a def of the text -/
structure HasF (K : PySem.W.Frag) (mg : Str → Option Value) (x : Str) (st : Stmt) : Prop where
  fd : ∃ fd, FunD K x x (defArgs st) (defBody st) (defScope st) [] [] (He.ga K x) fd
  gl : mg x = some (.ref (He.ga K x))
/-- a method of the text -/
structure HasM (K : PySem.W.Frag) (C m qual : Str) (st : Stmt) : Prop where
  fd : ∃ fd, FunD K m qual (defArgs st) (defBody st) (defScope st) [] [] (He.ma K (He.ga K C) m) fd
  me : Meth K (He.ga K C) m (He.ma K (He.ga K C) m)
/-- a def keeps its promise -/
structure FOk (P : Program) (w : World) (K : PySem.W.Frag) (mg : Str → Option Value) (base : Heap) (k : Nat) (x : Str) (ps : List Str) (sp : Sp) : Prop where
  ex : ∃ fd, FnOk P w K mg base CX0 k (He.ga K x) fd ps sp ∧ Binds K fd ps []
  kp : PySem.W.keepIn K (.ref (He.ga K x)) = true
  gl : mg x = some (.ref (He.ga K x))
structure MOk (P : Program) (w : World) (K : PySem.W.Frag) (mg : Str → Option Value) (base : Heap) (k : Nat) (C m : Str) (ps : List Str) (sp : Sp) : Prop where
  ex : ∃ fd, FnOk P w K mg base CX0 k (He.ma K (He.ga K C) m) fd ps sp ∧ Binds K fd ps []
  me : Meth K (He.ga K C) m (He.ma K (He.ga K C) m)
  cl : Cls K (He.ga K C)
section
variable {P : Program} {w : World} {mg : Str → Option Value} {base : Heap} {g : Gb} {k : Nat} {x C m qual : Str} {ps N : List Str} {S : SpD} {st : Stmt} {sp : Sp}
abbrev BindH (x qual : Str) (ps : List Str) (st : Stmt) : Prop := ∀ (kV doc pm : Value) (an : Option Addr) (cdv ct : Value) (us : List Value), us.length = ps.length → bindArgs (PySem.W.fnOf x qual (defArgs st) (defBody st) (defScope st) .none kV doc pm an cdv ct) ⟨us, []⟩ = pure (ps.zip us)
/-- the body's derivation -/
abbrev BodyD (P : Program) (w : World) (K : PySem.W.Frag) (mg : Str → Option Value) (base : Heap) (N : List Str) (qual : Str) (st : Stmt) (f : Addr) (k : Nat) (Φ : TS → Prop) : Prop :=
  ∀ (cdv : Value) (A : Around) (outer : List Env) (s : Shared) (H : Hp) (E : XK), Room k (A.deeper (envOfC qual (defScope st) s.heap.objs.size f cdv)) →
    ∃ t, PSs (cxOf CX0 P w K mg base N qual (defScope st) f cdv A outer s H E).nox (defBody st) t ∧ Φ t
theorem FOk.raw (F : HasF g.K mg x st) (Sc : FnScope N ps (defScope st)) (hb : BindH x x ps st) (len : ∀ vs H Q E, sp vs H Q E → vs.length = ps.length)
    (body : BodyD P w g.K mg base N x st (He.ga g.K x) k fun t => ∀ vs H Q E, sp vs H Q E → t { nx := fun _ H' => Q .non H', rt := Q } (L2.start N vs) H) : FOk P w g.K mg base (k + 1) x ps sp := by
  obtain ⟨fd, F1⟩ := F.fd
  refine ⟨⟨fd, F1.ok Sc len fun cdv A outer s H vs Q E hr hs => ?_, F1.bindsN hb⟩, F1.kp, F.gl⟩
  obtain ⟨t, h1, h2⟩ := body cdv A outer s H E hr
  exact ⟨t, h1.nox, h2 vs H Q E hs⟩
theorem FOk.mk' (F : HasF g.K mg x st) (Sc : FnScope N ps (defScope st)) (hb : BindH x x ps st) (hn : ∀ xs Q, S xs Q → xs.length = ps.length)
    (body : BodyD P w g.K mg base N x st (He.ga g.K x) k fun t => ∀ xs Q, S xs Q → StP g t (startR N xs) ⟨fun _ => Q (.d .none), Q, fun _ => False, fun _ => False⟩) : FOk P w g.K mg base (k + 1) x ps (spOf g S) :=
  FOk.raw F Sc hb (sp_len hn) fun cdv A outer s H E hr => by
    obtain ⟨t, h1, h2⟩ := body cdv A outer s H E hr
    exact ⟨t, h1, fun vs H Q E hs => sp_of hs h2⟩
theorem MOk.raw (F : HasM g.K C m qual st) (cl : Cls g.K (He.ga g.K C)) (Sc : FnScope N ps (defScope st)) (hb : BindH m qual ps st) (len : ∀ vs H Q E, sp vs H Q E → vs.length = ps.length)
    (body : BodyD P w g.K mg base N qual st (He.ma g.K (He.ga g.K C) m) k fun t => ∀ vs H Q E, sp vs H Q E → t { nx := fun _ H' => Q .non H', rt := Q } (L2.start N vs) H) : MOk P w g.K mg base (k + 1) C m ps sp := by
  obtain ⟨fd, F1⟩ := F.fd
  refine ⟨⟨fd, F1.ok Sc len fun cdv A outer s H vs Q E hr hs => ?_, F1.bindsN hb⟩, F.me, cl⟩
  obtain ⟨t, h1, h2⟩ := body cdv A outer s H E hr
  exact ⟨t, h1.nox, h2 vs H Q E hs⟩
theorem MOk.mk' (F : HasM g.K C m qual st) (cl : Cls g.K (He.ga g.K C)) (Sc : FnScope N ps (defScope st)) (hb : BindH m qual ps st) (hn : ∀ xs Q, S xs Q → xs.length = ps.length)
    (body : BodyD P w g.K mg base N qual st (He.ma g.K (He.ga g.K C) m) k fun t => ∀ xs Q, S xs Q → StP g t (startR N xs) ⟨fun _ => Q (.d .none), Q, fun _ => False, fun _ => False⟩) : MOk P w g.K mg base (k + 1) C m ps (spOf g S) :=
  MOk.raw F cl Sc hb (sp_len hn) fun cdv A outer s H E hr => by
    obtain ⟨t, h1, h2⟩ := body cdv A outer s H E hr
    exact ⟨t, h1, fun vs H Q E hs => sp_of hs h2⟩
end
section
variable {X : Cx} {k : Nat} {x C m : Str} {ps : List Str} {sp : Sp} {t : TA} {ta : TE} {p pos apos : Pos} {e o : Expr} {es : List Expr}
theorem pe_callF (F : FOk X.prog X.w X.K X.mg X.base k x ps sp) (hr : Room k X.A) (ha : PA X (e :: es) t) (hg : Gl X x := by rfl) (hdb : (x == ("__debug__" : Str)) = false := by decide) (he : starEach (e :: es) X.env = (false, eval e X.env) :: starEach es X.env := by rfl) (hpl : (backTo pos (starEach es X.env)).any (·.1) = false := by rfl) :
    PE X (.Call (.Name x p) (e :: es) [] pos) (tCall sp [] E0 t) := by
  obtain ⟨fd, F1, b⟩ := F.ex
  exact pe_call F1 hr hg F.gl F.kp b .nil pass0 ha hdb he hpl
theorem pe_methM {pl : Sem Bool} (F : MOk X.prog X.w X.K X.mg X.base k C m ps sp) (hr : Room k X.A) (he : PE X o ta) (ha : PA X (e :: es) t)
    (hst : starEach (e :: es) X.env = (false, eval e X.env) :: starEach es X.env := by rfl) (hpl : (backTo pos (starEach es X.env)).any (·.1) = false := by rfl)
    (ht : eval (.Call (.Attribute o m apos) (e :: es) [] pos) X.env = (do
      let ov ← eval o X.env
      standAt apos.atName
      let (f, first) ← holding [ov] (getMethod ov m pl)
      callWith pos f first (backTo pos (starEach (e :: es) X.env)) (backToKw pos (keywordEach [] X.env))) := by rfl) :
    PE X (.Call (.Attribute o m apos) (e :: es) [] pos) (tMeth (He.ga X.K C) m sp [] E0 ta t) := by
  obtain ⟨fd, F1, b⟩ := F.ex
  exact pe_meth he F.cl F.me F1 hr b .nil pass0 ha hst hpl ht
theorem pe_methM0 {pl : Sem Bool} (F : MOk X.prog X.w X.K X.mg X.base k C m ps sp) (hr : Room k X.A) (he : PE X o ta)
    (ht : eval (.Call (.Attribute o m apos) [] [] pos) X.env = (do
      let ov ← eval o X.env
      standAt apos.atName
      let (f, first) ← holding [ov] (getMethod ov m pl)
      callWith pos f first (backTo pos (starEach [] X.env)) (backToKw pos (keywordEach [] X.env))) := by rfl) :
    PE X (.Call (.Attribute o m apos) [] [] pos) (tMeth (He.ga X.K C) m sp [] E0 ta tNil) := by
  obtain ⟨fd, F1, b⟩ := F.ex
  exact pe_meth0 he F.cl F.me F1 hr b .nil pass0 ht
/-- x as a value of the def: a local, a cell, a captured one -/
theorem visL {sc : Scope} {x : Str} (h : sc.names.lookup x = some .local) : Vis sc x := .inl h
theorem visC {sc : Scope} {x : Str} (h : sc.names.lookup x = some .cell) : Vis sc x := .inr (.inl h)
theorem visF {sc : Scope} {x : Str} (h : sc.names.lookup x = some .free) : Vis sc x := .inr (.inr h)
end
theorem bt_len : bootBuiltins "len" = some (.builtin "len") := by decide +kernel
theorem bt_isinstance : bootBuiltins "isinstance" = some (.builtin "isinstance") := by decide +kernel
theorem bt_all : bootBuiltins "all" = some (.builtin "all") := by decide +kernel
theorem bt_any : bootBuiltins "any" = some (.builtin "any") := by decide +kernel
theorem bt_sum : bootBuiltins "sum" = some (.builtin "sum") := by decide +kernel
theorem bt_min : bootBuiltins "min" = some (.builtin "min") := by decide +kernel
theorem bt_max : bootBuiltins "max" = some (.builtin "max") := by decide +kernel
theorem bt_sorted : bootBuiltins "sorted" = some (.builtin "sorted") := by decide +kernel
theorem bt_abs : bootBuiltins "abs" = some (.builtin "abs") := by decide +kernel
theorem bt_repr : bootBuiltins "repr" = some (.builtin "repr") := by decide +kernel
theorem bt_int : bootBuiltins "int" = some (.type "int") := by decide +kernel
theorem bt_bool : bootBuiltins "bool" = some (.type "bool") := by decide +kernel
theorem bt_tuple : bootBuiltins "tuple" = some (.type "tuple") := by decide +kernel
theorem bt_list : bootBuiltins "list" = some (.type "list") := by decide +kernel
theorem bt_set : bootBuiltins "set" = some (.type "set") := by decide +kernel
/-- the built-ins that the text leaves alone -/
structure Tx (mg : Str → Option Value) : Prop where
  len : mg "len" = none
  isinstance : mg "isinstance" = none
  all : mg "all" = none
  any : mg "any" = none
  sum : mg "sum" = none
  min : mg "min" = none
  max : mg "max" = none
  sorted : mg "sorted" = none
  abs : mg "abs" = none
  repr : mg "repr" = none
  int : mg "int" = none
  bool : mg "bool" = none
  tuple : mg "tuple" = none
  list : mg "list" = none
  set : mg "set" = none
  range : mg "range" = none
  enumerate : mg "enumerate" = none
  zip : mg "zip" = none
end TB
set_option Elab.async false
set_option linter.all false
set_option autoImplicit false
set_option maxRecDepth 100000
set_option maxHeartbeats 4000000
/-! more rules of the data layer -/
namespace TB
open PySem PySem.Spec PyProof.Rows L2
section
variable {g : Gb} {ρ ρ' : Rho} {te ta tb tc : TE} {tt tu : TT} {P P' : Dx → Prop} {x y z : Dx} {K : PySem.W.Frag}
theorem ev_n (n : Nat) : Ev g (tC (.int (n : Int))) ρ (.d (.int (n : Int))) := ev_int
theorem rangeD_zero (n : Nat) : rangeD 0 n = intsTo n := by
  unfold rangeD intsTo
  congr 1
  funext i
  rw [Int.zero_add]
theorem it_rangeN {n : Nat} (h : Ev g te ρ (.d (.int (n : Int)))) (hn : n < 2 ^ 62) : ItP g (iRng1 (tCons te tNil)) ρ (fun y => y = intsTo n) := by
  rw [← rangeD_zero]
  exact it_range1 h hn
theorem intsTo_get {n i : Nat} {d : PyData} (h : (intsTo n)[i]? = some d) : d = .int (i : Int) ∧ i < n := by
  rw [← rangeD_zero] at h
  obtain ⟨h1, h2⟩ := rangeD_get h
  exact ⟨by rw [h1, Int.zero_add], h2⟩
theorem intsTo_length (n : Nat) : (intsTo n).length = n := by unfold intsTo; rw [List.length_map, List.length_range]
theorem intsTo_succ (n : Nat) : intsTo (n + 1) = intsTo n ++ [.int (n : Int)] := by unfold intsTo; rw [List.range_succ, List.map_append]; rfl
/-- a, b = a list -/
theorem tg_lst {n : Nat} {ts : TGs} {ds : List PyData} {js : List Nat} (h : TgsP g ts ρ ds js ρ') (hn : ds.length = n) : TgP g (gLst K n ts) ρ (.d (.list ds)) js ρ' := fun e σ F H v E rx Q q => by
  obtain ⟨a, vs, rfl, h1, h2⟩ := Dq.lst_of rx
  exact ⟨a, vs, rfl, SqL.of (E.wl.same _ _ h1), by rw [h2.length, hn], h e σ F H vs E h2 Q q⟩
theorem ev_isnotB {a b : Bool} (ha : Ev g ta ρ (.d (.bool a))) (hb : Ev g tb ρ (.d (.bool b))) : Ev g (tOp rNotB ta tb) ρ (.d (.bool (!decide (a = b)))) :=
  ev_op2 ha hb fun e σ F H v' w' x y E xa xb pa pb Q q => by
    subst pa pb
    exact ⟨a, b, Dq.bl_eq xa, Dq.bl_eq xb, q _ F H _ (Gr.refl E.wl) (rx_d (Dq.bl _)) rfl⟩
/-- isinstance of data and a built-in class -/
def tyD : PyData → String
  | .none => "NoneType"
  | .bool _ => "bool"
  | .int _ => "int"
  | .str _ => "str"
  | .list _ => "list"
  | .tuple _ => "tuple"
  | .dict _ => "dict"
def tyX : Dx → Option String
  | .d x => some (tyD x)
  | .own _ => some "list"
  | _ => none
theorem rx_ty {e : En} {F H : Hp} {v : V} {n : String} (w : Wl g e.lf F H) (r : Rx g e F H v x) (h : tyX x = some n) : TyX K H v (.type n) := by
  cases x with
  | d x =>
    have r : Dq F v x := r
    cases h
    cases r with
    | non => exact .base .non
    | bl b => exact .base (.bl b)
    | int i => exact .base (.int i)
    | str s => exact .base (.str s)
    | lst h _ => exact .base (.lst (w.same _ _ h))
    | tup h _ => exact .base (.tup (w.same _ _ h))
  | own es =>
    cases h
    obtain ⟨l, vs, e1, o, q⟩ := r
    subst e1
    exact .base (.lst o.h)
  | _ => cases h
theorem ev_isi {n T : String} {b : Bool} (ha : Ev g ta ρ x) (hx : tyX x = some n) (hk : kitB n T = some b) : Ev g (tCB (rIsi K) (tCons ta (tCons (tC (.ty T)) tNil))) ρ (.d (.bool b)) := fun e σ F H E Q q => ha e σ F H E _ fun v F1 H1 y r1 rx p => by
  subst p
  exact ⟨v, .ty T, .type n, .type T, b, rfl, .ty T, rx_ty r1.wl rx hx, kit_ty hk, q _ F1 H1 _ r1 (rx_d (Dq.bl b)) rfl⟩
/-- a constant of the module -/
theorem ev_k {i : Int} : Ev g (tC (.int i)) ρ (.d (.int i)) := ev_int
end

/-! ### the types of the program's data -/
abbrev Road := Nat × Nat × Int
def rdD (r : Road) : PyData := .tuple [.int r.1, .int r.2.1, .int r.2.2]
def rdsL (rs : List Road) : List PyData := rs.map rdD
def rdsD (rs : List Road) : PyData := .list (rs.map rdD)
def natsL (ns : List Nat) : List PyData := ns.map fun (n : Nat) => .int (n : Int)
def tupN (ns : List Nat) : PyData := .tuple (natsL ns)
def intL (ns : List Int) : PyData := .list (ns.map .int)

/-! ### HandS's rules with the written part named -/
section
variable {X : Cx}
theorem ixL (K : PySem.W.Frag) (hK : X.K = K := by rfl) : IxR X (rIxL K) := hK ▸ ix_list
theorem ixT (K : PySem.W.Frag) (hK : X.K = K := by rfl) : IxR X (rIxT K) := hK ▸ ix_tup
theorem opIn (K : PySem.W.Frag) (hK : X.K = K := by rfl) : OpR X (compareOp .In) (rIn K false) := hK ▸ op_in_seq
theorem opNIn (K : PySem.W.Frag) (hK : X.K = K := by rfl) : OpR X (compareOp .NotIn) (rIn K true) := hK ▸ op_notIn_seq
theorem opEqD (K : PySem.W.Frag) (hu : X.A.units + 64 < cLine) (hK : X.K = K := by rfl) : OpR X (compareOp .Eq) (rEqD K) := hK ▸ op_eqD hu
theorem opNeD (K : PySem.W.Frag) (hu : X.A.units + 64 < cLine) (hK : X.K = K := by rfl) : OpR X (compareOp .NotEq) (rNeD K) := hK ▸ op_neD hu
theorem opCatT (K : PySem.W.Frag) (hK : X.K = K := by rfl) : OpR X (binaryOp .Add) (rCatA K) := hK ▸ op_catA
theorem slL (K : PySem.W.Frag) (hK : X.K = K := by rfl) : SlR X (rSlL K) := hK ▸ sl_list
theorem slT (K : PySem.W.Frag) (hK : X.K = K := by rfl) : SlR X (rSlA K) := hK ▸ sl_tupA
theorem cLen (K : PySem.W.Frag) (hK : X.K = K := by rfl) : CallR X (.builtin "len") (rLenS K) := hK ▸ call_len_seq
theorem cTup (K : PySem.W.Frag) (hK : X.K = K := by rfl) : CallR X (.type "tuple") (rTupS K) := hK ▸ call_tuple_of
theorem cList (K : PySem.W.Frag) (hK : X.K = K := by rfl) : CallR X (.type "list") (rListS K) := hK ▸ call_list_of
theorem cSum (K : PySem.W.Frag) (hc : X.calm = true) (hK : X.K = K := by rfl) : CallR X (.builtin "sum") (rSum K) := hK ▸ cr_sum hc
theorem cMin (K : PySem.W.Frag) (hc : X.calm = true) (hK : X.K = K := by rfl) : CallR X (.builtin "min") (rMin K) := hK ▸ cr_min hc
theorem cAll (K : PySem.W.Frag) (hc : X.calm = true) (hK : X.K = K := by rfl) : CallR X (.builtin "all") (rAll K) := hK ▸ cr_all hc
theorem cAny (K : PySem.W.Frag) (hc : X.calm = true) (hK : X.K = K := by rfl) : CallR X (.builtin "any") (rAny K) := hK ▸ cr_any hc
theorem cSorted (K : PySem.W.Frag) (hK : X.K = K := by rfl) : CallR X (.builtin "sorted") (rSortedI K) := hK ▸ cr_sortedI
theorem cIsi (K : PySem.W.Frag) (hK : X.K = K := by rfl) : CallR X (.builtin "isinstance") (rIsi K) := hK ▸ call_isi
theorem cInt : CallR X (.type "int") rInt1 := call_int1
theorem cAbs : CallR X (.builtin "abs") rAbs := call_abs
theorem cMax2 (hc : X.calm = true) : CallR X (.builtin "max") rMax2 := call_max2 hc
theorem cMin2 (hc : X.calm = true) : CallR X (.builtin "min") rMin2 := call_min2 hc
variable {es : List Expr} {k0 : Nat} {t : TGs} {pos tpos p apos : Pos} {l e e2 o : Expr} {tl : TE} {ta : TA} {tg : Expr} {elts : List Expr}
theorem pgT (K : PySem.W.Frag) (n : Nat) (h : PGs X es t) (hc : X.calm = true := by rfl) (hK : X.K = K := by rfl) (hn : (assignEach es X.env).length = n := by rfl) (hst : (assignEach es X.env).findIdx? (·.1) = none := by rfl) : PG X (.Tuple es k0 pos) (gTup K n t) := hK ▸ pg_tup hc h hn hst
theorem pgL (K : PySem.W.Frag) (n : Nat) (h : PGs X es t) (hc : X.calm = true := by rfl) (hK : X.K = K := by rfl) (hn : (assignEach es X.env).length = n := by rfl) (hst : (assignEach es X.env).findIdx? (·.1) = none := by rfl) : PG X (.Tuple es k0 pos) (gLst K n t) := hK ▸ pg_lst hc h hn hst
theorem piL (K : PySem.W.Frag) (h : PE X l tl) (hK : X.K = K := by rfl) : PI X tg l (iList K tl) := hK ▸ pi_list h
theorem piT (K : PySem.W.Frag) (h : PE X l tl) (hK : X.K = K := by rfl) : PI X tg l (iTup K tl) := hK ▸ pi_tup h
theorem piEnum (K : PySem.W.Frag) (hm : X.mg "enumerate" = none) (ha : PA X [e] ta) (hg : Gl X "enumerate" := by rfl) (hK : X.K = K := by rfl) (hs : starEach [e] X.env = [(false, eval e X.env)] := by rfl) : PI X (.Tuple elts k0 tpos) (.Call (.Name "enumerate" p) [e] [] pos) (iEnum K ta) := hK ▸ pi_enum hg hm ha hs
theorem piZip (K : PySem.W.Frag) (hm : X.mg "zip" = none) (ha : PA X [e, e2] ta) (hg : Gl X "zip" := by rfl) (hK : X.K = K := by rfl) (hs : starEach [e, e2] X.env = (false, eval e X.env) :: starEach [e2] X.env := by rfl) (hpl : (backTo pos (starEach [e2] X.env)).any (·.1) = false := by rfl) :
    PI X (.Tuple elts k0 tpos) (.Call (.Name "zip" p) [e, e2] [] pos) (iZip K ta) := hK ▸ pi_zip hg hm ha hs hpl
theorem peFld (K : PySem.W.Frag) {f : Str} (he : PE X e tl) (hK : X.K = K := by rfl) (hb : attributeBase e f X.env (eval e X.env) = eval e X.env := by rfl) : PE X (.Attribute e f pos) (tFld K tl f) := hK ▸ pe_fld he hb
theorem peMeth (K : PySem.W.Frag) {pl : Sem Bool} {k : Nat} {C m : Str} {ps : List Str} {sp : Sp} (F : MOk X.prog X.w X.K X.mg X.base k C m ps sp) (hr : Room k X.A) (he : PE X o tl) (ha : PA X (e :: es) ta) (hK : X.K = K := by rfl)
    (hst : starEach (e :: es) X.env = (false, eval e X.env) :: starEach es X.env := by rfl) (hpl : (backTo pos (starEach es X.env)).any (·.1) = false := by rfl)
    (ht : eval (.Call (.Attribute o m apos) (e :: es) [] pos) X.env = (do
      let ov ← eval o X.env
      standAt apos.atName
      let (f, first) ← holding [ov] (getMethod ov m pl)
      callWith pos f first (backTo pos (starEach (e :: es) X.env)) (backToKw pos (keywordEach [] X.env))) := by rfl) :
    PE X (.Call (.Attribute o m apos) (e :: es) [] pos) (tMeth (He.ga K C) m sp [] E0 tl ta) := hK ▸ pe_methM F hr he ha hst hpl ht
theorem peMeth0 (K : PySem.W.Frag) {pl : Sem Bool} {k : Nat} {C m : Str} {ps : List Str} {sp : Sp} (F : MOk X.prog X.w X.K X.mg X.base k C m ps sp) (hr : Room k X.A) (he : PE X o tl) (hK : X.K = K := by rfl)
    (ht : eval (.Call (.Attribute o m apos) [] [] pos) X.env = (do
      let ov ← eval o X.env
      standAt apos.atName
      let (f, first) ← holding [ov] (getMethod ov m pl)
      callWith pos f first (backTo pos (starEach [] X.env)) (backToKw pos (keywordEach [] X.env))) := by rfl) :
    PE X (.Call (.Attribute o m apos) [] [] pos) (tMeth (He.ga K C) m sp [] E0 tl tNil) := hK ▸ pe_methM0 F hr he ht
end
end TB
set_option Elab.async false
set_option linter.all false
set_option autoImplicit false
set_option maxRecDepth 100000
set_option maxHeartbeats 4000000
/-! lists and tuples alike: sorted, set, zip, repr; o[i] -= e -/
namespace TB
open PySem PySem.Spec PyProof.Rows L2
section
variable {X : Cx}
theorem pget_list (K : PySem.W.Frag) (hK : X.K = K := by rfl) : PGet X (rIxL K) := by
  subst hK
  intro pins s σ H x y v u Q I rx ry h
  obtain ⟨p, xs, i, z, rfl, rfl, hq, he, q⟩ := h
  cases rx
  obtain ⟨t, rfl⟩ := ry
  obtain ⟨its, r, pl, hz⟩ := I.list hq
  obtain ⟨j, h1, h2, h3, h4, h5⟩ := atI_get he
  obtain ⟨w, ew, rw'⟩ := r.get h2
  have hl := r.length
  have hn := line63
  have fin : EP X pins σ Q w s := ⟨z, H, I, rw', q⟩
  by_cases h0 : 0 ≤ i
  · have hj : i.toNat = j := by
      rw [seqIndex_of h0 h5] at h1
      exact Option.some.inj h1
    exact wpAny_getItem_list pl.isList h0 (by omega) (by rw [hj]; simpa using ew) fin
  · have hj : (i + (its.toArray.size : Int)).toNat = j := by
      rw [seqIndex_neg (by omega) h4] at h1
      rw [List.size_toArray, ← hl]
      exact Option.some.inj h1
    exact wpAny_getItem_list_neg pl.isList (by omega) (by rw [List.size_toArray] <;> omega) (by omega) (by rw [hj]; simpa using ew) fin
/-- collect of a list or of a tuple -/
theorem collect_src {prog : Program} {w : World} {A : Around} {E : Value → Shared → Prop} {s : Shared} {Q : List Value → Shared → Prop} (it : Addr) {T : String} {o : Obj} {vs : List Value} {n : Nat} (hT : T = "list" ∨ T = "tuple")
    (ho : s.heap.get? it = some o) (hc : o.cls = .type T) (hd : o.data = .seq vs.toArray n) (hz : vs.length ≤ sizeLine)
    (hQ : ∀ h', (∀ b u, s.heap.get? b = some u → h'.get? b = some u) → s.heap.objs.size ≤ h'.objs.size → Q vs { s with heap := h' }) :
    wpAny (model prog w) A (collect (.ref it)) Q E s := by
  unfold collect
  refine wpAny_bind (wpAny_runValue (codeAny_builtin F.entry_proto_collect ?_))
  rw [Around.under_plainId F.plain_proto_collect _]
  refine wpAny_bind (wpAny_newObj_type ?_)
  refine wpAny_pure ⟨plainId_quiet F.plain_list_iadd _, codeAny_builtin F.entry_list_iadd ?_⟩
  rw [Around.under_plainId F.plain_list_iadd _]
  have hS : (s.heap.push { cls := .type "list", data := .seq ([] : List Value).toArray }).get? s.heap.objs.size = some { cls := .type "list", data := .seq #[] 0 } := Heap.get?_push_size _ rfl
  have hS₂ := Heap.get?_update_self (Obj.mapSeq (· ++ vs.toArray)) hS rfl
  have fin' : wpAny (model prog w) A (match Value.ref s.heap.objs.size with
      | Value.ref a => do
        match (← load a).data with
          | Data.seq xs _ => pure xs.toList
          | _ => unsupported "internal:collect"
      | _ => unsupported "internal:collect") Q E { s with heap := (s.heap.push { cls := .type "list", data := .seq ([] : List Value).toArray }).update s.heap.objs.size (Obj.mapSeq (· ++ vs.toArray)) } := by
    show wpAny _ A (load s.heap.objs.size >>= _) _ _ _
    refine wpAny_bind (wpAny_load hS₂ (wpAny_pure ?_))
    have e : ((#[] : Array Value) ++ vs.toArray).toList = vs := by simp
    show Q ((#[] : Array Value) ++ vs.toArray).toList _
    rw [e]
    refine hQ _ (fun b u hb => ?_) ?_
    · exact (Heap.get?_update_other _ _ (Nat.ne_of_gt (Heap.lt_size hb))).trans (Heap.get?_push_of_some _ hb)
    · rw [Heap.size_update, Heap.size_push]
      exact Nat.le_succ _
  refine wpAny_mono (wpAny_extend_seq (hsz := by rw [List.size_toArray]; exact hz) (A := A) (R := fun r s' => r = .ok (.ret (.ref s.heap.objs.size)) ∧ s' = { s with heap := (s.heap.push { cls := .type "list", data := .seq ([] : List Value).toArray }).update s.heap.objs.size (Obj.mapSeq (· ++ vs.toArray)) })
    (s := { s with heap := s.heap.push { cls := .type "list", data := .seq ([] : List Value).toArray } }) _ it _ 0 hT hS (Heap.get?_push_of_some _ ho) hc hd ⟨rfl, rfl⟩) (fun fin s' h => ?_) (fun e s' h => ?_)
  · cases fin with
    | done f =>
      obtain ⟨e, rfl⟩ := h
      cases e
      exact fin'
    | again c' => exact ⟨h.1, codeAny_mono h.2 fun r s'' hr => by obtain ⟨rfl, rfl⟩ := hr; exact fin'⟩
  · exact absurd h.1 (by simp)
theorem sorted_src {prog : Program} {w : World} {A : Around} {E : Value → Shared → Prop} {s : Shared} {Q : Value → Shared → Prop} {l : Addr} {vs : List Value} {ltv : Value → Value → Bool} {T : String} {o : Obj} {n : Nat} (O : SrtO.Swo ltv) (hT : T = "list" ∨ T = "tuple") (ho : s.heap.get? l = some o) (hc : o.cls = .type T) (hd : o.data = .seq vs.toArray n) (hz : vs.length ≤ sizeLine)
    (hS : 2 ≤ vs.length → ∀ (h₁ : Heap) (a : Addr), h₁.get? a = some (seqObj "list" vs.toArray 0) → SrtO.SortableO prog w A.in1.in1 { s with heap := h₁ } a vs ltv)
    (h : ∀ (out : List Value) (h' : Heap) (a : Addr) (c : Nat), SrtO.Srtd ltv out → SrtO.Stb ltv out vs → (∀ b o, s.heap.get? b = some o → h'.get? b = some o) → s.heap.objs.size ≤ a → h'.get? a = some (seqObj "list" out.toArray c) → Q (.ref a) { s with heap := h' }) :
    wpAny (model prog w) A (call (.builtin "sorted") [.ref l]) Q E s := by
  refine Calls.call_function_entry kind_sorted plain_sorted entry_sorted (args_sorted1 _) ?_
  unfold Builtin.«sorted»
  refine wpAny_bind (m := checkCount "sorted" 1 1 _) (wpAny_pure ?_)
  refine wpAny_bind (collect_src l hT ho hc hd hz fun h1 k1 z1 => ?_)
  refine wpAny_bind (wpAny_newList ?_ hz)
  have hoL : (h1.push (seqObj "list" vs.toArray 0)).get? h1.objs.size = some (seqObj "list" vs.toArray 0) := Heap.get?_push_size _ rfl
  refine wpAny_bind (wpAny_holding (wpAny_call_entry slot_list_sort ⟨_, hoL, rfl⟩ entry_list_sort (SrtO.list_sort_ord O hoL hz (fun h2 => hS h2 _ _ hoL) fun out hs hb => ⟨_, rfl, ?_⟩) (args_list_sort _)))
  obtain ⟨c, hc'⟩ := sortedHeap_at (vs := vs) (out := out.toArray) hoL
  refine wpAny_pure ⟨_, rfl, h out _ _ c hs hb (fun b u e => ?_) z1 hc'⟩
  have q := k1 b u e
  have hlt := Heap.lt_size q
  rw [sortedHeap_old (Nat.ne_of_lt hlt) (by rw [Heap.size_push]; exact Nat.lt_succ_of_lt hlt)]
  exact Heap.get?_push_of_some _ q
/-- a list or a tuple in the heap -/
theorem src_of {K : PySem.W.Frag} (hK : X.K = K) {pins : List (Addr × Obj)} {σ : St} {H : Hp} {s : Shared} {p : Addr} {ys : List V} (I : Inv X pins σ H s) (hs : SqL K H p ys ∨ SqT K H p ys) :
    ∃ (its : List Value) (T : String) (o : Obj) (n : Nat), (T = "list" ∨ T = "tuple") ∧ s.heap.get? p = some o ∧ o.cls = .type T ∧ o.data = .seq its.toArray n ∧ Vals ys its ∧ its.length ≤ sizeLine ∧ ((T = "list" ∧ s.heap.IsList p its.toArray) ∨ (T = "tuple" ∧ s.heap.IsTuple p its.toArray)) := by
  subst hK
  rcases hs with hs | hs
  · obtain ⟨its, r, pl, hz⟩ := I.list hs
    obtain ⟨o, ho, hc, n, hd⟩ := pl.isList
    exact ⟨its, "list", o, n, .inl rfl, ho, hc, hd, r, by rw [← r.length]; exact hz, .inl ⟨rfl, pl.isList⟩⟩
  · obtain ⟨its, r, pl, hz⟩ := I.tuple hs
    obtain ⟨o, ho, hc, n, hd⟩ := id pl
    exact ⟨its, "tuple", o, n, .inr rfl, ho, hc, hd, r, by rw [← r.length]; exact hz, .inr ⟨rfl, pl⟩⟩
def rSortedS (K : PySem.W.Frag) : List V → Hp → VK → Prop := fun vs H Q => ∃ (a : Addr) (ns : List Int), vs = [V.ref a] ∧ (SqL K H a (ns.map V.int) ∨ SqT K H a (ns.map V.int)) ∧
  ∀ (ns' : List Int) (p : Addr), ns'.Perm ns → ns'.Pairwise (· ≤ ·) → H p = none → Q (.ref p) (upd H p (.lst (ns'.map V.int)))
theorem cSortedS (K : PySem.W.Frag) (hK : X.K = K := by rfl) : CallR X (.builtin "sorted") (rSortedS K) := by
  intro pins s σ H vs us Q I r h
  obtain ⟨a, ns, rfl, hs, q⟩ := h
  obtain ⟨its, T, o, n, hT, ho, hc, hd, rv, hz, _⟩ := src_of hK I hs
  rw [Vals.ref1 r]
  have hi := rv.ints
  refine sorted_src SrtO.swo_int hT ho hc hd hz (fun h2 h₁ a' _ => SrtO.ints_sortable hi h2) fun out h' a' c h1 h2 kp za hc' => ?_
  obtain ⟨k1, k2, k3⟩ := SrtO.ints_out hi h1 h2
  have hlen : ((out.map SrtO.iv).map V.int).length ≤ sizeLine := by
    rw [List.length_map, k2.length_eq]
    have := rv.length
    rw [List.length_map] at this
    omega
  exact ⟨.ref _, upd H a' (.lst ((out.map SrtO.iv).map V.int)), I.laid (t' := s.toks) kp za ⟨hlen, out, c, vals_of_ints k1, hc'⟩, rfl, q _ _ k2 k3 (I.hok.fresh za)⟩
end
end TB
set_option Elab.async false
set_option linter.all false
set_option autoImplicit false
set_option maxRecDepth 100000
set_option maxHeartbeats 4000000
/-! sets of a list's or a tuple's ints -/
namespace TB
open PySem PySem.Spec PyProof.Rows L2
section
variable {P : Program} {w : World} {A : Around} {E : Value → Shared → Prop} {s : Shared}
theorem call_set_lstI {l : Addr} {items : Array Value} (ns : List Int) {Q : Value → Shared → Prop} (hh : A.handled = none) (hl : s.heap.IsList l items) (hit : IntsAre items.toList ns) (hb : ns.length + 1 < scanBound)
    (h : ∀ (h' : Heap) (tk c : Nat), SetR w h' s.heap.objs.size (fun j => decide (j ∈ ns)) c → c ≤ ns.length → (∀ b o, s.heap.get? b = some o → h'.get? b = some o) → Q (.ref s.heap.objs.size) { s with heap := h', toks := tk }) :
    wpAny (model P w) A (call (.type "set") [.ref l]) Q E s := by
  have hisz : items.size = ns.length := by
    have q := IntsAre.length hit
    rw [Array.length_toList] at q
    exact q
  obtain ⟨c, tl, hmro⟩ := F.called_set.mro
  have hmade := F.called_set.made
  have hsub := F.called_set.sub
  refine wpAny_call (codeAny_of_tree ?_)
  show wpAny _ _ (callAny (.type "set") _) _ _ _
  refine wpAny_pure ⟨Code.quiet_builtin _ (by decide +kernel), codeAny_builtin F.entry_type_call ?_⟩
  rw [Around.under_plain (weight_type_call_type "set" [.ref l] []) rfl]
  have h1 := F.called_set.notType
  have h2 := F.called_set.canCreate
  have hct := F.typeCall_set_1 (.ref l)
  repeat (any_goals (first | assumption | wp_step))

  refine codeAny_mono (code_set_led1 (.ref l) (E := E) (Q₁ := fun obj s₁ => obj = .ref s.heap.objs.size ∧ s₁ = { s with heap := s.heap.push { cls := .type "set", dict := none, data := .set #[] 0 (.fresh 0 0 (!w.params.followText "set-order")) } }) ⟨rfl, rfl⟩) fun r s₁ hr => ?_
  cases r with
  | error e => exact hr
  | ok fl =>
    cases fl with
    | ret obj =>
      obtain ⟨rfl, rfl⟩ := hr
      have hS : (s.heap.push { cls := .type "set", dict := none, data := .set #[] 0 (.fresh 0 0 (!w.params.followText "set-order")) }).get? s.heap.objs.size = some { cls := .type "set", dict := none, data := .set #[] 0 (.fresh 0 0 (!w.params.followText "set-order")) } := Heap.get?_push_size _ rfl
      have hT : Shared.TypeIs { s with heap := s.heap.push { cls := .type "set", dict := none, data := .set #[] 0 (.fresh 0 0 (!w.params.followText "set-order")) } } (.ref s.heap.objs.size) "set" := ⟨_, hS, rfl⟩
      have hli := F.called_set.init.lookup
      have hbi := F.called_set.init.bind (.ref s.heap.objs.size)
      repeat (any_goals (first | assumption | wp_step))

      refine codeAny_mono (codeAny_call_builtin (R := wants (fun r s₂ => r = .none ∧ ∃ h' tk c, s₂ = { s with heap := h', toks := tk } ∧ SetR w h' s.heap.objs.size (fun j => decide (j ∈ ns)) c ∧ c ≤ ns.length ∧
          (∀ b o, s.heap.get? b = some o → h'.get? b = some o)) E) F.called_set.init.plain F.entry_set_init (check_set_init_1 hT ?_)) fun r₂ s₂ hr₂ => ?_
      · obtain ⟨ol, hol, hcl, nl, hdl⟩ := hl
        obtain ⟨ocls, odict, odata, oslots⟩ := ol
        simp only at hcl hdl
        subst hcl; subst hdl
        have hol' : (s.heap.push { cls := .type "set", dict := none, data := .set #[] 0 (.fresh 0 0 (!w.params.followText "set-order")) }).get? l = some { cls := .type "list", dict := odict, data := .seq items nl, slots := oslots } := Heap.get?_push_of_some _ hol
        have hsls := F.sub_list_set
        have hslf := F.sub_list_frozenset
        have hne : (Value.type "list" == Value.type "dict") = false := by decide
        have hl1 : (s.heap.push { cls := .type "set", dict := none, data := .set #[] 0 (.fresh 0 0 (!w.params.followText "set-order")) }).IsList l items := ⟨_, hol', rfl, nl, rfl⟩
        unfold Builtin.«set.__init__» noKeywords Builtin.Frozenset.updateFrom
        generalize hPI : pyIter = PI
        wp_walk
        subst hPI

        refine wpAny_pyIter_list hl1 ?_
        refine wpAny_bind (wpAny_runValue ?_)
        have hlS : l < s.heap.objs.size := Heap.lt_size hol
        have hh3 : A.in1.in1.in1.handled = none := by simp [hh]
        have hz1 : (s.heap.push { cls := .type "set", dict := none, data := .set #[] 0 (.fresh 0 0 (!w.params.followText "set-order")) }).objs.size = s.heap.objs.size + 1 := Heap.size_push ..
        have hneI : l ≠ (s.heap.push { cls := .type "set", dict := none, data := .set #[] 0 (.fresh 0 0 (!w.params.followText "set-order")) }).objs.size := by
          rw [Heap.size_push]; exact Nat.ne_of_lt (Nat.lt_succ_of_lt hlS)
        have hSf : s.heap.objs.size ∉ [(s.heap.push { cls := .type "set", dict := none, data := .set #[] 0 (.fresh 0 0 (!w.params.followText "set-order")) }).objs.size, l] := by
          rw [Heap.size_push]; simp only [List.mem_cons, List.mem_singleton, List.not_mem_nil, or_false, not_or]
          exact ⟨Nat.ne_of_lt (Nat.lt_succ_self _), Nat.ne_of_gt hlS⟩
        have hval : ∀ (i : Nat) (v : Value), items[i]? = some v → ∃ k t, ns[i]? = some k ∧ v = .int k t := fun i v hv => by
          have hi : i < ns.length := by rw [← hisz]; exact (Array.getElem?_eq_some_iff.mp hv).1
          obtain ⟨t, e⟩ := PyProof.Rows.IntsAre.int_at hit i v (by rw [Array.getElem?_toList]; exact hv)
          refine ⟨ns[i], t, List.getElem?_eq_getElem hi, ?_⟩
          rw [e, List.getD_eq_getElem?_getD, List.getElem?_eq_getElem hi] <;> rfl
        refine set_update_ints ((Walks.list hh3 _ l hneI items).toS) s.heap.objs.size
          hSf ns hisz hb hval (items.size - 0) 0 _ (by omega) (Nat.zero_le _)
          ⟨⟨_, Heap.get?_push_size _ rfl, rfl, rfl⟩, (hl1.push _)⟩ ?hS0 ?hR
        case hS0 =>
          have hget : ((s.heap.push { cls := .type "set", dict := none, data := .set #[] 0 (.fresh 0 0 (!w.params.followText "set-order")) }).push { cls := .type "list_iterator", data := .fields #[.ref l, .int 0 0] }).get? s.heap.objs.size
              = some { cls := .type "set", dict := none, data := .set #[] 0 (.fresh 0 0 (!w.params.followText "set-order")) } := Heap.get?_push_of_some _ hS
          exact ⟨0, Nat.le_refl 0, setR_new_at hget⟩
        case hR =>
          intro s' c' hm hc' hS'
          obtain ⟨h', g2, d', tk', os'⟩ := s'
          have eg : g2 = s.gens := hm.gens
          have ed : d' = s.drawn := hm.drawn
          have eo : os' = s.os := hm.os
          subst eg; subst ed; subst eo
          show wpAny _ _ _ _ _ _
          refine wpAny_pure ?_
          show wpAny _ _ (ret Value.none) _ _ _
          rw [hisz] at hc'
          refine wpAny_pure ⟨rfl, h', tk', c', rfl, hS', hc', fun b o e => ?_⟩
          have hb0 : b < s.heap.objs.size := Heap.lt_size e
          have hb1 : b ≠ s.heap.objs.size := Nat.ne_of_lt hb0
          have hb2 : b ≠ (s.heap.push { cls := .type "set", dict := none, data := .set #[] 0 (.fresh 0 0 (!w.params.followText "set-order")) }).objs.size := by
            rw [Heap.size_push]; exact Nat.ne_of_lt (Nat.lt_succ_of_lt hb0)
          exact hm.heap b o (by simp only [List.mem_cons, List.mem_singleton, List.not_mem_nil, or_false, not_or]; exact ⟨hb1, hb2⟩) (Heap.get?_push_of_some _ (Heap.get?_push_of_some _ e))

      · cases r₂ with
        | error e => exact hr₂
        | ok fl₂ =>
          cases fl₂ with
          | ret r =>
            obtain ⟨rfl, h', tk, c', rfl, hS', hc', hk'⟩ := hr₂
            repeat (any_goals (first | assumption | wp_step))
            exact h _ _ _ hS' hc' hk'
          | _ => exact hr₂.elim
    | _ => exact hr.elim

theorem setR_keys {h : Heap} {a : Addr} {S : Int → Bool} {n : Nat} (R : SetR w h a S n) : ∃ ks : List Int, ks.Nodup ∧ (∀ k, k ∈ ks ↔ S k = true) ∧ ks.length = n := by
  obtain ⟨o, es, ep, t, ho, hex, hd, g, nd, hm, hb, hf, hn, hr, hl⟩ := R
  exact ⟨es.toList.map keyOf, nd, fun k => (hm k).symm, by rw [List.length_map, Array.length_toList]; exact hn⟩
end
end TB
set_option Elab.async false
set_option linter.all false
set_option autoImplicit false
set_option maxRecDepth 100000
set_option maxHeartbeats 4000000
/-! sets of a list's or a tuple's ints -/
namespace TB
open PySem PySem.Spec PyProof.Rows L2
section
variable {X : Cx}
theorem set_src (K : PySem.W.Frag) (hK : X.K = K) {pins : List (Addr × Obj)} {σ : St} {H : Hp} {s : Shared} {p : Addr} {ns : List Int} {Q : Value → Shared → Prop} {E : Value → Shared → Prop} (hh : X.A.handled = none) (I : Inv X pins σ H s) (hs : SqL K H p (ns.map V.int) ∨ SqT K H p (ns.map V.int)) (hb : ns.length + 1 < scanBound)
    (h : ∀ (s' : Shared) (c : Nat), Inv X pins σ H s' → SetR X.w s'.heap s.heap.objs.size (fun j => decide (j ∈ ns)) c → Q (.ref s.heap.objs.size) s') : wpAny (model X.prog X.w) X.A (call (.type "set") [.ref p]) Q E s := by
  obtain ⟨its, T, o, n, hT, ho, hc, hd, rv, hz, hl⟩ := src_of hK I hs
  have hit : IntsAre its.toArray.toList ns := by simpa using rv.ints
  rcases hl with ⟨_, hl⟩ | ⟨_, hl⟩
  · exact call_set_lstI ns hh hl hit hb fun h' tk c R hc' k => h _ c (I.kept k) R
  · exact call_set_tupI ns hh hl hit hb fun h' tk c R hc' k => h _ c (I.kept k) R
def tLenSetS (K : PySem.W.Frag) (ta : TE) : TE := fun σ H Q => ta σ H fun x H1 => ∃ (l : Addr) (ns : List Int), x = .ref l ∧ (SqL K H1 l (ns.map V.int) ∨ SqT K H1 l (ns.map V.int)) ∧ ns.length ≤ 4000 ∧ ∀ ks : List Int, ks.Nodup → (∀ k, k ∈ ks ↔ k ∈ ns) → Q (.int (ks.length : Nat)) H1
def tSortSetS (K : PySem.W.Frag) (ta : TE) : TE := fun σ H Q => ta σ H fun x H1 => ∃ (l : Addr) (ns : List Int), x = .ref l ∧ (SqL K H1 l (ns.map V.int) ∨ SqT K H1 l (ns.map V.int)) ∧ ns.length ≤ 4000 ∧ (∀ ks : List Int, ks.Nodup → (∀ k, k ∈ ks ↔ k ∈ ns) → ks.length < 64) ∧
  ∀ (ks : List Int) (p : Addr), ks.Pairwise (· < ·) → (∀ k, k ∈ ks ↔ k ∈ ns) → H1 p = none → Q (.ref p) (upd H1 p (.lst (ks.map V.int)))
theorem pe_lenSetS (K : PySem.W.Frag) {a : Expr} {ta : TE} {p p2 q pos : Pos} (hg : Gl X "len") (hm : X.mg "len" = none) (hg2 : Gl X "set") (hm2 : X.mg "set" = none) (ha : PE X a ta) (hc : X.calm = true := by rfl) (hK : X.K = K := by rfl)
    (na : starEach [a] X.env = (false, eval a X.env) :: starEach [] X.env := by rfl) : PE X (.Call (.Name "len" p) [.Call (.Name "set" p2) [a] [] q] [] pos) (tLenSetS K ta) := by
  refine ⟨fun pins s σ H Q I h => ?_⟩
  refine Call_ (ld_blt I hg hm boot_len ?_)
  refine PyProof.Rows.callWith_builtin1 (PyProof.Rows.args_cons ?_ rfl) rfl rfl
  refine Call_ (ld_blt I hg2 hm2 boot_set ?_)
  refine PyProof.Rows.callWith_type1 (PyProof.Rows.args_cons (thn (ha.run pins s σ H _ I h) fun v s1 ⟨x, H1, I1, r1, q1⟩ => PyProof.Rows.args_nil ?_) na) na rfl
  obtain ⟨l, ns, rfl, hq, hl, q1⟩ := q1
  cases r1
  refine set_src K hK (I1.ok.hd hc) I1 hq (by unfold scanBound; omega) fun s2 c I2 R => ?_
  refine PyProof.Rows.args_nil ?_
  obtain ⟨ks, k1, k2, k3⟩ := setR_keys R
  obtain ⟨o, es, ep, t, ho, hex, hd, _, _, _, hb', hf, hn, _⟩ := R
  refine call_len_set ho hex hd hf (by unfold scanBound at hb'; omega) ⟨.int ks.length, H1, I2.tok _, ⟨_, by rw [hn, k3]⟩, q1 ks k1 fun k => (k2 k).trans decide_eq_true_iff⟩
theorem pe_sortSetS (K : PySem.W.Frag) {a : Expr} {ta : TE} {p p2 q pos : Pos} (hg : Gl X "sorted") (hm : X.mg "sorted" = none) (hg2 : Gl X "set") (hm2 : X.mg "set" = none) (ha : PE X a ta) (hc : X.calm = true := by rfl) (hK : X.K = K := by rfl)
    (na : starEach [a] X.env = (false, eval a X.env) :: starEach [] X.env := by rfl) : PE X (.Call (.Name "sorted" p) [.Call (.Name "set" p2) [a] [] q] [] pos) (tSortSetS K ta) := by
  refine ⟨fun pins s σ H Q I h => ?_⟩
  refine Call_ (ld_blt I hg hm bt_sorted ?_)
  refine PyProof.Rows.callWith_builtin1 (PyProof.Rows.args_cons ?_ rfl) rfl rfl
  refine Call_ (ld_blt I hg2 hm2 boot_set ?_)
  refine PyProof.Rows.callWith_type1 (PyProof.Rows.args_cons (thn (ha.run pins s σ H _ I h) fun v s1 ⟨x, H1, I1, r1, q1⟩ => PyProof.Rows.args_nil ?_) na) na rfl
  obtain ⟨l, ns, rfl, hq, hl, h64, q1⟩ := q1
  cases r1
  refine set_src K hK (I1.ok.hd hc) I1 hq (by unfold scanBound; omega) fun s2 c I2 R => ?_
  refine PyProof.Rows.args_nil ?_
  obtain ⟨ks, k1, k2, k3⟩ := setR_keys R
  have h6 := h64 ks k1 fun k => (k2 k).trans decide_eq_true_iff
  refine L2.sorted_set R (I1.ok.hd hc) (by omega) fun s' b out e ms kp hg' ho hz hb2 hi hp hm' hn => ?_
  have hlen : (ms.map V.int).length ≤ sizeLine := by rw [List.length_map, hn, sizeLine_eq]; omega
  have hf : H1 b = none := I2.hok.fresh hz
  have J : Inv X pins σ (upd H1 b (.lst (ms.map V.int))) { s2 with heap := s'.heap, gens := s'.gens, drawn := s'.drawn, toks := s'.toks } :=
    I2.call (ch := []) (Un.laid kp hz hf) (I2.hok.laid kp hz ⟨hlen, out.toList, e, vals_of_ints hi, hb2⟩) (by rw [hg']; exact I2.bare) (fun _ z => nomatch z)
  have es : s' = { s2 with heap := s'.heap, gens := s'.gens, drawn := s'.drawn, toks := s'.toks } := by
    cases s'
    cases s2
    cases ho
    rfl
  rw [es]
  exact ⟨.ref b, _, J, rfl, q1 ms b hp (fun k => (hm' k).trans decide_eq_true_iff) hf⟩
end
end TB
set_option Elab.async false
set_option linter.all false
set_option autoImplicit false
set_option maxRecDepth 100000
set_option maxHeartbeats 4000000
/-! more rules: iteration over lists and tuples, len of an instance, classes called, list(range), zip -/
namespace TB
open PySem PySem.Spec PyProof.Rows L2
section
variable {X : Cx} {K : PySem.W.Frag} {tg l : Expr} {tl : TE}
def iSeqLT (K : PySem.W.Frag) (tl : TE) : TI := fun σ H R => tl σ H fun x H1 => ∃ a, x = .ref a ∧ (((∃ xs, SqL K H1 a xs) ∧ R (Itl K a) H1) ∨ ((∃ xs, SqT K H1 a xs) ∧ R (Itt K a) H1))
theorem piSeq (K : PySem.W.Frag) (hl : PE X l tl) (hK : X.K = K := by rfl) : PI X tg l (iSeqLT K tl) := by
  subst hK
  refine ⟨fun pins s σ H R I h => ?_⟩
  refine thn (hl.run pins s σ H _ I h) fun v s1 ⟨x, H1, I1, r1, q1⟩ => ?_
  obtain ⟨a, e, q⟩ := q1
  subst e
  cases r1
  have fp : ∀ b ∈ [s1.heap.objs.size], FpOk X pins H1 b := fun b hb => by
    have e : b = s1.heap.objs.size := by simpa using hb
    subst e
    exact I1.fpOk (Nat.le_refl _) (I1.hok.fresh (Nat.le_refl _))
  rcases q with ⟨⟨xs, hq⟩, q⟩ | ⟨⟨xs, hq⟩, q⟩
  · obtain ⟨its, rv, p, hz⟩ := I1.list hq
    refine wpAny_pyIter_list p.isList ?_
    exact ⟨s1.heap.objs.size, [s1.heap.objs.size], _, _, H1, rfl, I1.kept (t' := s1.toks) fun b o e => Heap.get?_push_of_some _ e, turn_list a _, ⟨_, Heap.get?_push_size _ rfl, rfl, rfl⟩, fp, q⟩
  · obtain ⟨its, rv, p, hz⟩ := I1.tuple hq
    refine wpAny_pyIter_tuple (show s1.heap.IsTuple a its.toArray from p) ?_
    exact ⟨s1.heap.objs.size, [s1.heap.objs.size], _, _, H1, rfl, I1.kept (t' := s1.toks) fun b o e => Heap.get?_push_of_some _ e, turn_tuple a _, ⟨_, Heap.get?_push_size _ rfl, rfl, rfl⟩, fp, q⟩
theorem piZipT (K : PySem.W.Frag) {ta : TA} {k0 : Nat} {e e2 : Expr} {p pos tpos : Pos} {elts : List Expr} (hm : X.mg "zip" = none) (ha : PA X [e, e2] ta) (hg : Gl X "zip" := by rfl) (hK : X.K = K := by rfl) (hs : starEach [e, e2] X.env = (false, eval e X.env) :: starEach [e2] X.env := by rfl) (hpl : (backTo pos (starEach [e2] X.env)).any (·.1) = false := by rfl) :
    PI X (.Tuple elts k0 tpos) (.Call (.Name "zip" p) [e, e2] [] pos) (RZ.iZipA K ta) := hK ▸ RZ.pi_zipA hg hm ha hs hpl
/-- len(x), x an instance of the class at C -/
def rLenO (C : Addr) (sp : Sp) : List V → Hp → VK → Prop := fun xs H Q => ∃ (a dx : Addr) (fs : List (Str × V)), xs = [.ref a] ∧ H a = some (.ins C dx fs) ∧ sp [.ref a] H (fun v H2 => ∃ n : Nat, v = .int (n : Int) ∧ n < 2 ^ 62 ∧ Q (.int (n : Int)) H2) E0
theorem cLenO {k : Nat} {C : Str} {sp : Sp} {ps : List Str} (F : MOk X.prog X.w X.K X.mg X.base k C "__len__" ps sp) (hr : Room (k + 1) X.A) (K : PySem.W.Frag) (hK : X.K = K := by rfl) : CallR X (.builtin "len") (rLenO (He.ga K C) sp) := by
  subst hK
  intro pins s σ H xs us Q I r h
  obtain ⟨a, dx, fs, rfl, ha, q⟩ := h
  rw [Vals.ref1 r]
  obtain ⟨fd, F1, b⟩ := F.ex
  obtain ⟨mA, J, _⟩ := ins_get I.hok ha
  obtain ⟨od, J, _⟩ := J.look
  obtain ⟨m, hF⟩ := I.fr
  have hl := F1.len _ _ _ _ q
  have r2 : Vals [V.ref a] [Value.ref a] := .cons rfl .nil
  refine PySem.W.len_K hF I.ok.mod.kin J F.me.at_ F.me.fn ?_
  refine wpAny_call (codeAny_mono (F1.run X.A.in1 X.stack s H ⟨[.ref a], []⟩ [.ref a] [.ref a] _ E0 hr.in1 I.env0.in1 (by
    have := b s [.ref a] I.kIn (by simpa using hl)
    simpa using this) r2 q) fun r s' hq => ?_)
  cases r with
  | error e => exact pass0 pins σ H s e s' I hq
  | ok fl =>
    cases fl with
    | ret u =>
      obtain ⟨v, H', I', rv, n, rfl, hn, q'⟩ := I.after hq
      obtain ⟨t, rfl⟩ := rv
      refine ⟨⟨Int.natCast_nonneg n, ?_⟩, .int n, H', I'.tok _, ⟨_, rfl⟩, q'⟩
      have : (n : Int) < 2 ^ 62 := by exact_mod_cast hn
      omega
    | next => exact False.elim hq
    | brk => exact False.elim hq
    | cont => exact False.elim hq
end
end TB
set_option Elab.async false
set_option linter.all false
set_option autoImplicit false
set_option maxRecDepth 100000
set_option maxHeartbeats 4000000
/-! data rules -/
namespace TB
open PySem PySem.Spec PyProof.Rows L2
/-! ### data that can be compared -/
def Pl (n : Nat) (d : PyData) : Prop := d.canLay0 = true ∧ d.depth ≤ n
theorem pl_int {n : Nat} (i : Int) : Pl n (.int i) := ⟨rfl, Nat.zero_le _⟩
theorem pl_bool {n : Nat} (b : Bool) : Pl n (.bool b) := ⟨rfl, Nat.zero_le _⟩
theorem pl_none {n : Nat} : Pl n .none := ⟨rfl, Nat.zero_le _⟩
theorem pl_all : ∀ {n : Nat} {ds : List PyData}, (∀ d ∈ ds, Pl n d) → PyData.canLayAll0 ds = true ∧ PyData.depthAll ds ≤ n
  | n, [], _ => ⟨rfl, Nat.zero_le _⟩
  | n, d :: ds, h => by
    obtain ⟨h1, h2⟩ := h d List.mem_cons_self
    obtain ⟨h3, h4⟩ := pl_all (ds := ds) fun x hx => h x (List.mem_cons_of_mem _ hx)
    refine ⟨by rw [PyData.canLayAll0, h1, h3]; rfl, ?_⟩
    rw [PyData.depthAll]
    omega
theorem pl_list {n : Nat} {ds : List PyData} (h : ∀ d ∈ ds, Pl n d) : Pl (n + 1) (.list ds) := by
  obtain ⟨h1, h2⟩ := pl_all h
  refine ⟨by rw [PyData.canLay0]; exact h1, ?_⟩
  rw [PyData.depth]
  omega
theorem pl_tup {n : Nat} {ds : List PyData} (h : ∀ d ∈ ds, Pl n d) : Pl (n + 1) (.tuple ds) := by
  obtain ⟨h1, h2⟩ := pl_all h
  refine ⟨by rw [PyData.canLay0]; exact h1, ?_⟩
  rw [PyData.depth]
  omega
theorem Pl.up {n m : Nat} {d : PyData} (h : Pl n d) (e : n ≤ m) : Pl m d := ⟨h.1, Nat.le_trans h.2 e⟩
theorem Pl.sh {n : Nat} {d : PyData} (h : Pl n d) (e : n ≤ 64 := by decide) : SeqAt.shaped d = true := by
  unfold SeqAt.shaped
  rw [h.1, Bool.true_and]
  exact decide_eq_true (Nat.le_trans h.2 e)
theorem Pl.refl {n : Nat} {d : PyData} (h : Pl n d) : PyData.eqv d d = true := SeqAt.eqv_refl d h.1
theorem pl_nats {n : Nat} (ns : List Nat) : ∀ d ∈ natsL ns, Pl n d := fun d h => by
  unfold natsL at h
  obtain ⟨m, _, rfl⟩ := List.mem_map.mp h
  exact pl_int _
theorem pl_ints {n : Nat} (ns : List Int) : ∀ d ∈ ns.map PyData.int, Pl n d := fun d h => by
  obtain ⟨m, _, rfl⟩ := List.mem_map.mp h
  exact pl_int _
theorem pl_tupN (ns : List Nat) : Pl 1 (tupN ns) := pl_tup (n := 0) (pl_nats ns)
theorem eqv_nil (ds : List PyData) : PyData.eqv (.list ds) (.list []) = decide (ds = []) := by
  cases ds <;> simp [PyData.eqv, PyData.eqvAll]
theorem eqv_nilT (ds : List PyData) : PyData.eqv (.tuple ds) (.tuple []) = decide (ds = []) := by
  cases ds <;> simp [PyData.eqv, PyData.eqvAll]
theorem natsL_ints (ns : List Nat) : natsL ns = (ns.map fun (n : Nat) => (n : Int)).map PyData.int := by
  unfold natsL
  rw [List.map_map]
  rfl
theorem natsL_length (ns : List Nat) : (natsL ns).length = ns.length := by unfold natsL; rw [List.length_map]
theorem natsL_append (a b : List Nat) : natsL (a ++ b) = natsL a ++ natsL b := by unfold natsL; rw [List.map_append]
theorem natsL_nil_iff (a : List Nat) : natsL a = [] ↔ a = [] := by unfold natsL; exact List.map_eq_nil_iff
theorem natsL_inj : ∀ {a b : List Nat}, natsL a = natsL b → a = b
  | [], [], _ => rfl
  | [], _ :: _, h => by simp [natsL] at h
  | _ :: _, [], h => by simp [natsL] at h
  | x :: a, y :: b, h => by
    have h' : PyData.int (x : Int) = .int (y : Int) ∧ natsL a = natsL b := by simpa [natsL] using h
    have e1 : (x : Int) = y := PyData.int.inj h'.1
    rw [natsL_inj h'.2, Int.ofNat.inj e1]
theorem eqvAll_nats : ∀ a b : List Nat, PyData.eqvAll (natsL a) (natsL b) = decide (a = b)
  | [], [] => rfl
  | [], _ :: _ => rfl
  | _ :: _, [] => rfl
  | x :: a, y :: b => by
    show (((x : Int) == (y : Int)) && PyData.eqvAll (natsL a) (natsL b)) = _
    rw [eqvAll_nats a b, Bool.eq_iff_iff]
    simp
    omega
theorem eqv_tupN (a b : List Nat) : PyData.eqv (tupN a) (tupN b) = decide (a = b) := by
  show PyData.eqvAll (natsL a) (natsL b) = _
  exact eqvAll_nats a b
theorem eqv_listN (a b : List Nat) : PyData.eqv (.list (natsL a)) (.list (natsL b)) = decide (a = b) := by
  show PyData.eqvAll (natsL a) (natsL b) = _
  exact eqvAll_nats a b
theorem eqvAll_ints : ∀ a b : List Int, PyData.eqvAll (a.map .int) (b.map .int) = decide (a = b)
  | [], [] => rfl
  | [], _ :: _ => rfl
  | _ :: _, [] => rfl
  | x :: a, y :: b => by
    show ((x == y) && PyData.eqvAll (a.map .int) (b.map .int)) = _
    rw [eqvAll_ints a b, Bool.eq_iff_iff]
    simp
theorem eqv_intL (a b : List Int) : PyData.eqv (intL a) (intL b) = decide (a = b) := by
  show PyData.eqvAll (a.map .int) (b.map .int) = _
  exact eqvAll_ints a b
/-! ### indices -/
theorem atI_nat {α : Type} {l : List α} {n : Nat} : atI l (n : Int) = l[n]? := by
  unfold atI ixN
  rw [if_pos (Int.natCast_nonneg n), Int.toNat_natCast]
  by_cases h : n < l.length
  · rw [if_pos (by exact_mod_cast h)]; rfl
  · rw [if_neg (by omega)]
    exact (List.getElem?_eq_none (by omega)).symm
theorem mem_cast {n : Nat} {ns : List Nat} : ((n : Int) ∈ ns.map fun (m : Nat) => (m : Int)) ↔ n ∈ ns := by
  rw [List.mem_map]
  constructor
  · rintro ⟨m, h, e⟩
    have : m = n := Int.ofNat.inj e
    rw [← this]; exact h
  · exact fun h => ⟨n, h, rfl⟩
/-- in ascending order -/
def srtN (ns : List Nat) : List Nat := ns.mergeSort (fun a b => decide (a ≤ b))
theorem srtN_perm (ns : List Nat) : (srtN ns).Perm ns := List.mergeSort_perm _ _
theorem srtN_sorted (ns : List Nat) : (srtN ns).Pairwise (· ≤ ·) := by
  have h := List.pairwise_mergeSort (le := fun a b : Nat => decide (a ≤ b)) (by intro a b c h1 h2; simp only [decide_eq_true_eq] at *; omega) (by intro a b; simp only [Bool.or_eq_true, decide_eq_true_eq]; omega) ns
  exact h.imp fun {a b} h => of_decide_eq_true h
theorem srt_cast (ns : List Nat) : srt (ns.map fun (m : Nat) => (m : Int)) = (srtN ns).map fun (m : Nat) => (m : Int) :=
  (srt_eq ((srtN_perm ns).map _) (List.pairwise_map.mpr ((srtN_sorted ns).imp fun {a b} h => by exact_mod_cast h))).symm
/-- the members, ascending; below 60 -/
def sset (ns : List Nat) : List Nat := (List.range 60).filter fun v => decide (v ∈ ns)
theorem sset_lt (ns : List Nat) : (sset ns).Pairwise (· < ·) := List.pairwise_lt_range.filter _
theorem mem_sset {ns : List Nat} (h : ∀ n ∈ ns, n < 60) {v : Nat} : v ∈ sset ns ↔ v ∈ ns := by
  unfold sset
  rw [List.mem_filter, List.mem_range, decide_eq_true_iff]
  exact ⟨fun z => z.2, fun z => ⟨h v z, z⟩⟩
theorem lt_sorted_eq : ∀ {l l' : List Int}, l.Pairwise (· < ·) → l'.Pairwise (· < ·) → (∀ k, k ∈ l ↔ k ∈ l') → l = l'
  | [], [], _, _, _ => rfl
  | [], b :: l', _, _, h => absurd ((h b).mpr List.mem_cons_self) (by simp)
  | a :: l, [], _, _, h => absurd ((h a).mp List.mem_cons_self) (by simp)
  | a :: l, b :: l', h1, h2, h => by
    obtain ⟨a1, a2⟩ := List.pairwise_cons.mp h1
    obtain ⟨b1, b2⟩ := List.pairwise_cons.mp h2
    have e : a = b := by
      rcases List.mem_cons.mp ((h a).mp List.mem_cons_self) with z | z
      · exact z
      · rcases List.mem_cons.mp ((h b).mpr List.mem_cons_self) with y | y
        · exact y.symm
        · have := a1 b y
          have := b1 a z
          omega
    subst e
    rw [lt_sorted_eq a2 b2 fun k => ?_]
    constructor
    · intro hk
      rcases List.mem_cons.mp ((h k).mp (List.mem_cons_of_mem _ hk)) with z | z
      · have := a1 k hk
        omega
      · exact z
    · intro hk
      rcases List.mem_cons.mp ((h k).mpr (List.mem_cons_of_mem _ hk)) with z | z
      · have := b1 k hk
        omega
      · exact z
theorem lt_sortedN_eq {l l' : List Nat} (h1 : l.Pairwise (· < ·)) (h2 : l'.Pairwise (· < ·)) (h : ∀ k, k ∈ l ↔ k ∈ l') : l = l' := by
  have c : ∀ {l : List Nat}, l.Pairwise (· < ·) → (l.map fun (m : Nat) => (m : Int)).Pairwise (· < ·) := fun h => List.pairwise_map.mpr (h.imp fun {a b} h => by exact_mod_cast h)
  have e := lt_sorted_eq (c h1) (c h2) fun k => by
    rw [List.mem_map, List.mem_map]
    exact ⟨fun ⟨m, a, b⟩ => ⟨m, (h m).mp a, b⟩, fun ⟨m, a, b⟩ => ⟨m, (h m).mpr a, b⟩⟩
  have inj : ∀ {l l' : List Nat}, (l.map fun (m : Nat) => (m : Int)) = l'.map (fun (m : Nat) => (m : Int)) → l = l' := fun h => natsL_inj (by rw [natsL_ints, natsL_ints, h])
  exact inj e
section
variable {g : Gb} {ρ ρ' : Rho} {te ta tb tc : TE} {tt tu : TT} {P P' : Dx → Prop} {x y z : Dx} {K : PySem.W.Frag}
theorem ev_ixLn {ds : List PyData} {n : Nat} {d : PyData} (ha : Ev g ta ρ x) (hb : Ev g tb ρ (.d (.int (n : Int)))) (hx : isL x = some ds) (h : ds[n]? = some d) : Ev g (tOp (rIxL K) ta tb) ρ (.d d) := ev_ixL ha hb hx (by rw [atI_nat]; exact h)
theorem ev_ixTn {ds : List PyData} {n : Nat} {d : PyData} (ha : Ev g ta ρ (.d (.tuple ds))) (hb : Ev g tb ρ (.d (.int (n : Int)))) (h : ds[n]? = some d) : Ev g (tOp (rIxT K) ta tb) ρ (.d d) := ev_ixT ha hb (by rw [atI_nat]; exact h)
theorem ev_inN {n : Nat} {ns : List Nat} (ha : Ev g ta ρ (.d (.int (n : Int)))) (hb : Ev g tb ρ y) (hy : isS y = some (natsL ns)) : Ev g (tOp (rIn K false) ta tb) ρ (.d (.bool (decide (n ∈ ns)))) :=
  (ev_in ha hb (by rw [hy, natsL_ints])).is (by congr 2; simp only [mem_cast])
theorem ev_ninN {n : Nat} {ns : List Nat} (ha : Ev g ta ρ (.d (.int (n : Int)))) (hb : Ev g tb ρ y) (hy : isS y = some (natsL ns)) : Ev g (tOp (rIn K true) ta tb) ρ (.d (.bool (!decide (n ∈ ns)))) :=
  (ev_nin ha hb (by rw [hy, natsL_ints])).is (by congr 3; simp only [mem_cast])
theorem ev_sortedS {ns : List Int} (ha : Ev g ta ρ x) (hx : isS x = some (ns.map PyData.int)) : Ev g (tCB (rSortedS K) (tCons ta tNil)) ρ (.d (.list ((srt ns).map PyData.int))) :=
  evp_cb1 ha fun e σ F H v a E xa pa Q q => by
    subst pa
    obtain ⟨l, vs, rfl, hl, hq⟩ := rx_seq (K := K) E.wl xa hx
    rw [hq.ints] at hl
    refine ⟨l, ns, rfl, hl, fun ns' p h1 h2 hp => ?_⟩
    rw [srt_eq h1 h2]
    exact q _ _ _ _ (Gr.new E.wl hp) (rx_d (Dq.lst upd_same (DqAll.of_ints _))) rfl
theorem ev_sortedN {ns : List Nat} (ha : Ev g ta ρ x) (hx : isS x = some (natsL ns)) : Ev g (tCB (rSortedS K) (tCons ta tNil)) ρ (.d (.list (natsL (srtN ns)))) :=
  (ev_sortedS ha (by rw [hx, natsL_ints])).is (by rw [srt_cast, ← natsL_ints])
theorem ev_lenSetN {ns : List Nat} (ha : Ev g ta ρ x) (hx : isS x = some (natsL ns)) (hn : ns.Nodup) (hl : ns.length ≤ 4000) : Ev g (tLenSetS K ta) ρ (.d (.int (ns.length : Int))) := fun e σ F H E Q q => ha e σ F H E _ fun v F1 H1 a r1 x1 p1 => by
  subst p1
  obtain ⟨l, vs, rfl, hv, hq⟩ := rx_seq (K := K) r1.wl x1 hx
  rw [natsL_ints] at hq
  rw [hq.ints] at hv
  refine ⟨l, _, rfl, hv, by rw [List.length_map]; exact hl, fun ks k1 k2 => ?_⟩
  have nd : (ns.map fun (m : Nat) => (m : Int)).Nodup := List.Pairwise.map _ (fun a b h z => h (Int.ofNat.inj z)) hn
  have pm : ks.Perm (ns.map fun (m : Nat) => (m : Int)) := (List.perm_ext_iff_of_nodup k1 nd).mpr k2
  rw [pm.length_eq, List.length_map]
  exact q _ F1 H1 _ r1 (rx_d (Dq.int _)) rfl
theorem nodup_le : ∀ (k : Nat) (l : List Int), l.Nodup → (∀ i ∈ l, 0 ≤ i ∧ i < (k : Int)) → l.length ≤ k
  | 0, [], _, _ => Nat.le_refl _
  | 0, i :: l, _, h => by
    have := h i List.mem_cons_self
    omega
  | k + 1, l, nd, h => by
    have h2 := nodup_le k (l.erase (k : Int)) (nd.erase _) fun i hi => by
      have h3 := h i (List.mem_of_mem_erase hi)
      have h4 : i ≠ (k : Int) := ((nd.mem_erase_iff).mp hi).1
      omega
    have h5 : l.length ≤ (l.erase (k : Int)).length + 1 := by
      by_cases hm : (k : Int) ∈ l
      · rw [List.length_erase_of_mem hm]; omega
      · rw [List.erase_of_not_mem hm]; omega
    omega
theorem ev_sortSetN {ns : List Nat} (ha : Ev g ta ρ x) (hx : isS x = some (natsL ns)) (hn : ∀ n ∈ ns, n < 60) (hl : ns.length ≤ 4000) : Ev g (tSortSetS K ta) ρ (.d (.list (natsL (sset ns)))) := fun e σ F H E Q q => ha e σ F H E _ fun v F1 H1 a r1 x1 p1 => by
  subst p1
  obtain ⟨l, vs, rfl, hv, hq⟩ := rx_seq (K := K) r1.wl x1 hx
  rw [natsL_ints] at hq
  rw [hq.ints] at hv
  refine ⟨l, _, rfl, hv, by rw [List.length_map]; exact hl, fun ks k1 k2 => ?_, fun ks p k1 k2 hp => ?_⟩
  · have := nodup_le 60 ks k1 fun i hi => by
      obtain ⟨m, hm, rfl⟩ := List.mem_map.mp ((k2 i).mp hi)
      have := hn m hm
      omega
    omega
  · have e1 : ks = (sset ns).map fun (m : Nat) => (m : Int) := lt_sorted_eq k1 (List.pairwise_map.mpr ((sset_lt ns).imp fun {a b} h => by exact_mod_cast h)) fun k => by
      rw [k2 k, List.mem_map, List.mem_map]
      exact ⟨fun ⟨m, h1, h2⟩ => ⟨m, (mem_sset hn).mpr h1, h2⟩, fun ⟨m, h1, h2⟩ => ⟨m, (mem_sset hn).mp h1, h2⟩⟩
    rw [e1]
    refine q _ _ _ _ (r1.step E (Gr.new r1.wl hp)) (rx_d (Dq.lst upd_same ?_)) rfl
    rw [natsL_ints]
    exact DqAll.of_ints _
theorem it_seq {d : PyData} {ds : List PyData} (h : Ev g te ρ (.d d)) (hx : isS (.d d) = some ds) : ItP g (iSeqLT K te) ρ (fun y => y = ds) := fun e σ F H E R r => h e σ F H E _ fun v F1 H1 z r1 rx p => by
  subst p
  cases d with
  | list es =>
    cases hx
    obtain ⟨a, vs, rfl, h1, q⟩ := Dq.lst_of rx
    exact ⟨a, rfl, .inl ⟨⟨vs, SqL.of (r1.wl.same _ _ h1)⟩, r _ F1 H1 ds r1 rfl (wd_list h1 q)⟩⟩
  | tuple es =>
    cases hx
    obtain ⟨a, vs, rfl, h1, q⟩ := Dq.tup_of rx
    exact ⟨a, rfl, .inr ⟨⟨vs, SqT.of (r1.wl.same _ _ h1)⟩, r _ F1 H1 ds r1 rfl (wd_tup h1 q)⟩⟩
  | _ => cases hx
theorem wd_zipT {lf : Option Addr} {F1 : Hp} {a b : Addr} {vs us : List V} {ds es : List PyData} (h : F1 a = some (.tup vs)) (q : DqAll F1 vs ds) (h2 : F1 b = some (.tup us)) (q2 : DqAll F1 us es) : WalkD g lf F1 (RZ.ItzT K a b) (zipD ds es) := by
  have w : Walk (RZ.ItzT K a b) (min vs.length us.length) (fun H => SqT K H a vs ∧ SqT K H b us) (YPair (fun i => vs[i]?) (fun i => us[i]?)) := by
    refine ⟨fun i _ hi q => ?_, fun _ q => ⟨vs, us, q.1, q.2, by omega⟩, fun i H v H' _ q y => ?_⟩
    · have h1 : i < vs.length := by omega
      have h2 : i < us.length := by omega
      exact ⟨vs, us, vs[i], us[i], q.1, q.2, by simp [h1], by simp [h2]⟩
    · obtain ⟨T, x, z, h1, h2, h3, h4, h5⟩ := y
      exact ⟨T, x, z, h1, h2, h3, h4 vs q.1, h5 us q.2⟩
  refine wd_pair (n := min vs.length us.length) (A := fun i => ds[i]?) (B := fun i => es[i]?) (by rw [q.length, q2.length]; unfold zipD; rw [List.length_zipWith]) w (fun F2 H2 s1 s2 => ⟨SqT.of (s2 _ _ (s1 _ _ h)), SqT.of (s2 _ _ (s1 _ _ h2))⟩) (fun i d hd => ?_) (fun i v a h1 h2 => q.got h1 h2) (fun i v a h1 h2 => q2.got h1 h2)
  unfold zipD at hd
  rw [List.getElem?_zipWith] at hd
  cases e1 : ds[i]? with
  | none => rw [e1] at hd; cases hd
  | some d1 =>
    cases e2 : es[i]? with
    | none => rw [e1, e2] at hd; cases hd
    | some d2 =>
      rw [e1, e2] at hd
      exact ⟨d1, d2, (Option.some.inj hd).symm, rfl, rfl⟩
theorem it_zipT {ds es : List PyData} (h : Ev g ta ρ (.d (.tuple ds))) (h2 : Ev g tb ρ (.d (.tuple es))) : ItP g (RZ.iZipA K (tCons ta (tCons tb tNil))) ρ (fun y => y = zipD ds es) := fun e σ F H E R r => h e σ F H E _ fun v F1 H1 x r1 rx p => h2 e σ F1 H1 (E.grow r1) _ fun w F2 H2 x2 r2 rx2 p2 => by
  subst p p2
  obtain ⟨a, vs, rfl, h1, q⟩ := Dq.tup_of rx
  obtain ⟨b, us, rfl, h3, q3⟩ := Dq.tup_of rx2
  have s := r2.ff _ _ h1
  exact ⟨a, b, vs, us, rfl, .inr ⟨SqT.of (r2.wl.same _ _ s), SqT.of (r2.wl.same _ _ h3), r _ F2 H2 _ (r1.step E r2) rfl (wd_zipT s (q.mono r2.ff) h3 q3)⟩⟩
/-- len of a net -/
theorem ev_lenO {S : SpD} {h : Nat} {rs : List PyData} (ha : Ev g ta ρ (.net h rs)) (hh : h < 2 ^ 62) (hS : ∀ P : Dx → Prop, P (.d (.int (h : Int))) → S [.net h rs] P) : Ev g (tCB (rLenO (He.ga g.K "Net") (spOf g S)) (tCons ta tNil)) ρ (.d (.int (h : Int))) :=
  evp_cb1 ha fun e σ F H v a E xa pa Q q => by
    subst pa
    obtain ⟨a, rfl, dx, v1, v2, h1, h2, h3⟩ := id xa
    refine ⟨a, dx, _, rfl, E.wl.same _ _ h1, e.lf, F, [.net h rs], (fun y => y = .d (.int (h : Int))), E.wl, .cons xa .nil, hS _ rfl, fun v F' H' x r fx px => ?_⟩
    subst px
    rw [Dq.int_eq fx]
    exact ⟨h, rfl, hh, q _ F' H' _ r (rx_d (Dq.int _)) rfl⟩
/-- list(range(n)) -/
theorem rgV_ints (n : Nat) : rgV 0 (n : Int) = (List.range n).map fun (i : Nat) => V.int (i : Int) := by
  unfold rgV
  rw [Int.sub_zero, Int.toNat_natCast]
  congr 1
  funext i
  rw [Int.zero_add]
theorem ev_listRg {n : Nat} (ha : Ev g ta ρ (.d (.int (n : Int)))) (hn : n ≤ 1000) : Ev g (tLstRg (tRg1 ta)) ρ (.d (.list (intsTo n))) := fun e σ F H E Q q => ha e σ F H E _ fun v F1 H1 a r1 x1 p1 => by
  subst p1
  refine ⟨n, Dq.int_eq x1, RgOk.of_le (by decide) (by omega) (by decide) (by omega), fun p hp => ?_⟩
  rw [rgV_ints]
  refine q _ _ _ _ (r1.step E (Gr.new r1.wl hp)) (rx_d (Dq.lst upd_same ?_)) rfl
  have := DqAll.of_ints (F := upd F1 p (.lst ((List.range n).map fun (i : Nat) => V.int (i : Int)))) ((List.range n).map fun (i : Nat) => (i : Int))
  rw [List.map_map, List.map_map] at this
  exact this
/-! ### a class called -/
/-- what an __init__ promises: P of the new object at the end -/
def spInit (g : Gb) (C : Str) (S : List Dx → (Hp → Addr → Prop) → Prop) : Sp := fun vs H1 Q _ => ∃ lf F H x dx us xs P, vs = .ref x :: us ∧ Wl g lf F H ∧ ArgAll g lf F us xs ∧ S xs P ∧ H x = none ∧ H dx = none ∧ dx ≠ x ∧ H1 = upd (upd H dx (.own x)) x (.ins (He.ga g.K C) dx []) ∧
  ∀ F2 H2, Gr g lf F H F2 H2 → P F2 x → Q .non H2
theorem ev_make {C : Str} {S : List Dx → (Hp → Addr → Prop) → Prop} {t : TA} {E0 : XK} {xs : List Dx} (ha : EvA g t ρ (fun y => y = xs)) (h : S xs (fun F a => Fx g.K F (.ref a) x)) (hx : x.fz = true := by rfl) (hn : noOwn xs = true := by rfl) : Ev g (tMake (He.ga g.K C) (spInit g C S) [] E0 t) ρ x := fun e σ F H E Q q => ha e σ F H E _ fun vs F1 H1 ys r1 rx p => by
  subst p
  intro a dx h1 h2 h3
  rw [List.append_nil]
  exact ⟨e.lf, F1, H1, a, dx, vs, ys, _, rfl, r1.wl, rx.args (noOwn_ok hn), h, h1, h2, h3, rfl, fun F2 H2 r2 p2 => ⟨rfl, q _ F2 H2 x (r1.step E r2) (Fx.rx hx p2) rfl⟩⟩
end
section
variable {X : Cx} {k : Nat} {C : Str} {ps : List Str} {sp : Sp} {t : TA} {p pos : Pos} {e : Expr} {es : List Expr}
theorem pe_makeC (K : PySem.W.Frag) (F : MOk X.prog X.w X.K X.mg X.base k C "__init__" ps sp) (M : Mk K (He.ga K C) (He.ma K (He.ga K C) "__init__")) (hm : X.mg C = some (.ref (He.ga K C))) (hr : Room (k + 1) X.A) (ha : PA X (e :: es) t) (hg : Gl X C := by rfl) (hK : X.K = K := by rfl) (hdb : (C == ("__debug__" : Str)) = false := by decide) (he : starEach (e :: es) X.env = (false, eval e X.env) :: starEach es X.env := by rfl) (hpl : (backTo pos (starEach es X.env)).any (·.1) = false := by rfl) :
    PE X (.Call (.Name C p) (e :: es) [] pos) (tMake (He.ga K C) sp [] E0 t) := by
  subst hK
  obtain ⟨fd, F1, b⟩ := F.ex
  exact pe_make M F1 hr hg hm b .nil pass0 ha hdb he hpl
theorem pe_listRange (K : PySem.W.Frag) {a : Expr} {ta : TE} {q p2 : Pos} (hm : X.mg "list" = none) (hm2 : X.mg "range" = none) (ha : PE X a ta) (hc : X.calm = true := by rfl) (hg : Gl X "list" := by rfl) (hg2 : Gl X "range" := by rfl)
    (na : starEach [a] X.env = (false, eval a X.env) :: starEach [] X.env := by rfl) (nb : starEach [.Call (.Name "range" p2) [a] [] q] X.env = (false, eval (.Call (.Name "range" p2) [a] [] q) X.env) :: starEach [] X.env := by rfl) :
    PE X (.Call (.Name "list" p) [.Call (.Name "range" p2) [a] [] q] [] pos) (tLstRg (tRg1 ta)) := pe_listRg hc hg hm (prg_1 hg2 hm2 ha na) nb
end
end TB
set_option Elab.async false
set_option linter.all false
set_option autoImplicit false
set_option maxRecDepth 100000
set_option maxHeartbeats 4000000
/-! defs that are called while nothing is shown; repr -/
namespace TB
open PySem PySem.Spec PyProof.Rows L2
structure GOk (P : Program) (w : World) (K : PySem.W.Frag) (mg : Str → Option Value) (base : Heap) (CX : CXT) (k : Nat) (f : Addr) (fd : FuncData) (ps : List Str) (sp : Sp) : Prop where
  len : ∀ vs H Q E, sp vs H Q E → vs.length = ps.length
  run : ∀ (A : Around) (outer : List Env) (s : Shared) (H : Hp) (args : Args) (us : List Value) (vs : List V) (Q : VK) (E : XK), A.guards = some [] → Room k A → Env0 P w K mg base A outer s H → BindsTo s fd args (ps.zip us) → Vals vs us → sp vs H Q E →
    codeAny (model P w) A (.call (.ref f) args) (CR CX outer P w H s Q E) s
theorem g_of {CX : CXT} {P : Program} {w : World} {K : PySem.W.Frag} {mg : Str → Option Value} {base : Heap} {k : Nat} {f : Addr} {name qual : Str} {params : Arguments} {body : List Stmt} {scope : Scope} {dV kV doc pm cdv ct oc : Value} {an od : Option Addr}
    {osl : Array (Option Value)} {N ps : List Str} {sp : Sp} (lk : K.lookup f = some ⟨oc, od, .func (PySem.W.fnOf name qual params body scope dV kV doc pm an cdv ct), osl⟩) (hcd : PySem.W.codeIn K cdv qual = true) (S : FnScope N ps scope)
    (len : ∀ vs H Q E, sp vs H Q E → vs.length = ps.length)
    (hbody : ∀ (A : Around) (outer : List Env) (s : Shared) (H : Hp) (vs : List V) (Q : VK) (E : XK), A.guards = some [] → Room k (A.deeper (envOfC qual scope s.heap.objs.size f cdv)) → sp vs H Q E →
      ∃ t, PSs (cxOf CX P w K mg base N qual scope f cdv A outer s H E) body t ∧ t { nx := fun _ H' => Q .non H', rt := Q } (L2.start N vs) H) :
    GOk P w K mg base CX (k + 1) f (PySem.W.fnOf name qual params body scope dV kV doc pm an cdv ct) ps sp := by
  refine ⟨len, fun A outer s H args us vs Q E hg hr e0 hb r hsp => ?_⟩
  have hl := len _ _ _ _ hsp
  have KX : K.In s.heap := e0.mod.kin.keeps fun b o e => (e0.bs b o e).1
  have lim : s.heap.NoLimit := e0.mod.nolimit.keeps fun b o e => (e0.bs b o e).1
  have hkind : ∀ y ∈ ps.zip us, scope.names.lookup y.1 = some .local ∨ (scope.names.lookup y.1 = some .cell ∧ ((cellsFrom (s.heap.objs.size + 1) scope.names []).lookup y.1).isSome = true) := fun ⟨n, v⟩ hy => by
    rcases S.par n (List.of_mem_zip hy).1 with q | q
    · exact .inl q
    · exact .inr ⟨q, PySem.W.cellsFrom_some _ _ _ (.inl q)⟩
  refine codeAny_call_function hr.depth (KX _ _ lk) rfl S.co S.gen rfl (PySem.W.codeRec_of KX hcd) (hb _ _ _ _ ?_)
  refine wpAny_newFunctionEnv_cells S.kind hkind fun env he s1 x => ?_
  subst he
  refine ⟨lim.keeps x.toInCall.keep, codeAny_func ?_⟩
  obtain ⟨t, ht, hq⟩ := hbody A outer s H vs Q E hg (hr.deeper _) hsp
  have I : Inv (cxOf CX P w K mg base N qual scope f cdv A outer s H E) [] (L2.start N vs) H s1 := inv_start S hr.hd e0 hl r x
  refine wpAny_mono (ht.run [] s1 (L2.start N vs) H _ I hq) (fun fl s' hs => ?_) fun e s' hs => hs
  cases fl with
  | ret u =>
    obtain ⟨v, σ', H', J, rv, q⟩ := hs
    exact ⟨v, H', J.os, J.bare, J.base, J.hok, rv, q⟩
  | next =>
    obtain ⟨σ', H', J, q⟩ := hs
    exact ⟨.non, H', J.os, J.bare, J.base, J.hok, rfl, q⟩
  | brk =>
    obtain ⟨_, _, _, q⟩ := hs
    exact False.elim q
  | cont =>
    obtain ⟨_, _, _, q⟩ := hs
    exact False.elim q
structure GFk (P : Program) (w : World) (K : PySem.W.Frag) (mg : Str → Option Value) (base : Heap) (k : Nat) (x : Str) (ps : List Str) (sp : Sp) : Prop where
  ex : ∃ fd, GOk P w K mg base CX0 k (He.ga K x) fd ps sp ∧ Binds K fd ps []
  kp : PySem.W.keepIn K (.ref (He.ga K x)) = true
  gl : mg x = some (.ref (He.ga K x))
abbrev BodyG (P : Program) (w : World) (K : PySem.W.Frag) (mg : Str → Option Value) (base : Heap) (N : List Str) (qual : Str) (st : Stmt) (f : Addr) (k : Nat) (Φ : TS → Prop) : Prop :=
  ∀ (cdv : Value) (A : Around) (outer : List Env) (s : Shared) (H : Hp) (E : XK), A.guards = some [] → Room k (A.deeper (envOfC qual (defScope st) s.heap.objs.size f cdv)) →
    ∃ t, PSs (cxOf CX0 P w K mg base N qual (defScope st) f cdv A outer s H E).nox (defBody st) t ∧ Φ t
section
variable {P : Program} {w : World} {mg : Str → Option Value} {base : Heap} {g : Gb} {k : Nat} {x : Str} {ps N : List Str} {st : Stmt} {sp : Sp}
theorem GFk.raw (F : HasF g.K mg x st) (Sc : FnScope N ps (defScope st)) (hb : BindH x x ps st) (len : ∀ vs H Q E, sp vs H Q E → vs.length = ps.length)
    (body : BodyG P w g.K mg base N x st (He.ga g.K x) k fun t => ∀ vs H Q E, sp vs H Q E → t { nx := fun _ H' => Q .non H', rt := Q } (L2.start N vs) H) : GFk P w g.K mg base (k + 1) x ps sp := by
  obtain ⟨fd, F1⟩ := F.fd
  refine ⟨⟨fd, ?_, F1.bindsN hb⟩, F1.kp, F.gl⟩
  obtain ⟨oc, od, dV, kV, doc, pm, an, cdv, ct, osl, rfl, lk, hcd, _, _⟩ := F1.ex
  refine g_of lk hcd Sc len fun A outer s H vs Q E hg hr hsp => ?_
  obtain ⟨t, h1, h2⟩ := body cdv A outer s H E hg hr
  exact ⟨t, h1.nox, h2 vs H Q E hsp⟩
end
section
variable {X : Cx} {k : Nat} {x : Str} {ps : List Str} {sp : Sp} {t : TA} {p pos : Pos} {e : Expr} {es : List Expr}
theorem pe_callG (F : GFk X.prog X.w X.K X.mg X.base k x ps sp) (hgd : X.A.guards = some []) (hr : Room k X.A) (ha : PA X (e :: es) t) (hg : Gl X x := by rfl) (hdb : (x == ("__debug__" : Str)) = false := by decide) (he : starEach (e :: es) X.env = (false, eval e X.env) :: starEach es X.env := by rfl) (hpl : (backTo pos (starEach es X.env)).any (·.1) = false := by rfl) :
    PE X (.Call (.Name x p) (e :: es) [] pos) (tCall sp [] E0 t) := by
  obtain ⟨fd, F1, hb⟩ := F.ex
  refine ⟨fun pins s σ H Q I h => ?_⟩
  refine wpAny_Call_Name_kw (ld_glob I hg F.gl ?_ hdb)
  refine PySem.W.callWith_K (h₀ := X.base) I.ok.mod.kin F.kp (thn (ha.run pos pins s σ H _ I h) fun us s1 ⟨vs, H1, I1, r, q⟩ => ⟨I1.kIn, ?_⟩) he hpl
  have r2 : Vals (vs ++ []) (us ++ []) := r.append .nil
  have hl : (us ++ []).length = ps.length := by rw [← r2.length]; exact F1.len _ _ _ _ q
  refine wpAny_call (codeAny_mono (F1.run X.A X.stack s1 H1 ⟨us, []⟩ (us ++ []) (vs ++ []) Q E0 hgd hr I1.env0 (hb s1 us I1.kIn hl) r2 q) fun r s' hq => ?_)
  cases r with
  | error e => exact pass0 (X := X) pins σ H1 s1 e s' I1 hq
  | ok fl =>
    cases fl with
    | ret u => exact I1.after hq
    | next => exact False.elim hq
    | brk => exact False.elim hq
    | cont => exact False.elim hq
/-- repr of a list or a tuple of plain data -/
def rRepr (K : PySem.W.Frag) : List V → Hp → VK → Prop := fun xs H Q => ∃ (a : Addr) (d : PyData), xs = [.ref a] ∧ Dp K H (.ref a) d ∧ d.showable = true ∧ d.hasDict = false ∧ d.depth ≤ 40 ∧ d.shown.length ≤ sizeLine ∧ Q (.str d.shown) H
theorem cRepr (K : PySem.W.Frag) (hgd : X.A.guards = some []) (hr : Room k X.A) (hK : X.K = K := by rfl) : CallR X (.builtin "repr") (rRepr K) := by
  subst hK
  intro pins s σ H xs us Q I r h
  obtain ⟨a, d, rfl, hd, h1, h2, h3, h4, q⟩ := h
  rw [Vals.ref1 r]
  obtain ⟨as, rd⟩ := Dp.reads I d (.ref a) (.ref a) hd rfl
  exact repr_of_reads' rd h1 (fun z => by rw [h2] at z; cases z) hgd (by have := hr.units; omega) (fun _ _ e => e) (fun h' u tk hk => ⟨.str d.shown, H, I.kept (t' := tk) hk, ⟨_, rfl⟩, q⟩) h4
theorem cReprI : CallR X (.builtin "repr") (fun xs H Q => ∃ i, xs = [.int i] ∧ i.natAbs.log2 < 1920 ∧ Q (.str (toString i)) H) := SkE.call_repr_int
end
end TB
set_option Elab.async false
set_option linter.all false
set_option autoImplicit false
set_option maxRecDepth 100000
set_option maxHeartbeats 4000000
/-! sorted(lots, key=lambda lot: (len(lot), lot)) -/
namespace TB
open PySem PySem.Spec PyProof.Rows L2
section
variable {X : Cx} {pins : List (Addr × Obj)} {σ : L2.St} {H : Hp} {s : Shared}
def lamP (pa : Pos) : Arguments := { posonlyargs := [], args := [{ arg := "lot", annotation := none, pos := pa : PySem.Arg }], vararg := none, kwonlyargs := [], kw_defaults := [], kwarg := none, defaults := [] }
def lamE (p1 p2 p3 p4 p5 : Pos) : Expr := .Tuple [.Call (.Name "len" p1) [.Name "lot" p2] [] p3, .Name "lot" p4] 0 p5
def lamS : Scope := { kind := ScopeKind.function, names := [(PySem.Str.ofString "lot", NameKind.local), (PySem.Str.ofString "len", NameKind.globalImplicit)], isGenerator := false, isCoroutine := false, more := [] }
def lotKey (ns : List Nat) : PyData := .tuple [.int (ns.length : Int), tupN ns]
theorem lamS_nc : ∀ x ∈ lamS.names, x.2 ≠ NameKind.cell := by decide +kernel
theorem lamS_nf : ∀ x ∈ lamS.names, x.2 ≠ NameKind.free := by decide +kernel
theorem readsAll_nats {h : Heap} : ∀ {vs : List Value} {ns : List Nat}, IntsAre vs (ns.map fun (n : Nat) => (n : Int)) → ReadsAll h vs (natsL ns) []
  | _, [], .nil => .nil
  | _, n :: ns, .cons _ t r => by
    have := ReadsAll.cons (h := h) (Reads.int (n : Int) t) (readsAll_nats (h := h) r)
    exact this
theorem lam_turn {pa p1 p2 p3 p4 p5 : Pos} {qual : Str} {cl : List (Str × Addr)} (I : Inv X pins σ H s) (hr : Room 3 X.A) (hlen : X.mg "len" = none) {f c' : Addr} {pm ctv : Value} {h : Heap} {tk : Nat} (hk : ∀ b o, s.heap.get? b = some o → h.get? b = some o)
    (hf : s.heap.get? f = some (PySem.W.kla_obj "<lambda>" qual (lamP pa) (lamE p1 p2 p3 p4 p5) lamS cl pm c' ctv)) (hc : H c' = some (LamX.CodeO c' qual)) {t : Addr} {vs : List Value} {ns : List Nat} (ht : s.heap.IsTuple t vs.toArray) (hi : IntsAre vs (ns.map fun (n : Nat) => (n : Int))) (hz : vs.length ≤ 1000) :
    wpAny (model X.prog X.w) X.A.in1.in1 (call (.ref f) [.ref t]) (PySem.W.KeyPure (lotKey ns) { s with heap := h, toks := tk }) (fun _ _ => False) { s with heap := h, toks := tk } := by
  obtain ⟨⟨oc, cvs, ct, hoc, hdc, hvc⟩, _, _⟩ := I.hok c' _ hc
  have hvl := hi.length
  rw [List.length_map] at hvl
  have rc : codeAny (model X.prog X.w) X.A.in1.in1 (.call (.ref f) ⟨[.ref t], []⟩) (fun r s' => ∃ v, r = .ok (.ret v) ∧ PySem.W.KeyPure (lotKey ns) { s with heap := h, toks := tk } v s') { s with heap := h, toks := tk } := by
    refine PySem.W.kla_callFunE (fd := PySem.W.kla_fn "<lambda>" qual (lamP pa) (lamE p1 p2 p3 p4 p5) lamS cl pm (.ref c') ctv) (o := PySem.W.kla_obj "<lambda>" qual (lamP pa) (lamE p1 p2 p3 p4 p5) lamS cl pm c' ctv) (by have := hr.depth; exact this) (hk _ _ hf) rfl rfl rfl rfl ⟨c', oc, cvs, ct, rfl, hk _ _ hoc, hdc, hvc⟩ ?_
    have hb : bindArgs (PySem.W.kla_fn "<lambda>" qual (lamP pa) (lamE p1 p2 p3 p4 p5) lamS cl pm (.ref c') ctv) ⟨[.ref t], []⟩ = pure [(("lot" : Str), Value.ref t)] := by rfl
    rw [hb]
    refine wpAny_pure (wpAny_newFunctionEnv lamS_nc (by intro x hx; rw [List.mem_singleton.mp hx]; rfl) (fun h₁ hns hsb => ⟨(I.nolimit.keeps hk).fresh _ hsb, ?_⟩) rfl)
    have kp : ∀ b o, h.get? b = some o → h₁.get? b = some o := fun b o e => hsb.extBut b o (Nat.ne_of_lt (Heap.lt_size e)) (Heap.get?_push_of_some _ e)
    refine PySem.W.kla_codeExpr ?_
    unfold lamE
    have ht2 : h₁.IsTuple t vs.toArray := by
      obtain ⟨o, ho, hc2, n, hd⟩ := ht
      exact ⟨o, kp _ _ (hk _ _ ho), hc2, n, hd⟩
    refine wpAny_Tuple_spliced ?_
    obtain ⟨mb, b1, b2⟩ := I.mod.blt
    have k2 : ∀ b o, X.base.get? b = some o → h₁.get? b = some o := fun b o e => kp _ _ (hk _ _ (I.bk b o e))
    refine Calls.spliced_cons ?_
    refine Call_ (Calls.Name_function_global rfl rfl (Calls.loadGlobal_builtin (mg := X.mg) (mb := mb) (v := .builtin "len") (I.mod.glob.keeps k2) hlen (b1.keeps k2) ((b2 "len" (by decide)).trans boot_len) ?_) (by decide))
    refine PyProof.Rows.callWith_builtin1 (Calls.spliced_cons (wpAny_Name (wpAny_loadName_local rfl rfl hns rfl (Calls.spliced_nil ?_)) (by decide))) rfl rfl
    refine len_tuple ht2 (by rw [List.size_toArray]; omega) ?_
    refine Calls.spliced_cons (wpAny_Name (wpAny_loadName_local rfl rfl hns rfl (Calls.spliced_nil ⟨by show 2 ≤ sizeLine; decide, ?_⟩)) (by decide))
    refine ⟨_, rfl, _, _, rfl, fun b o e => Heap.get?_push_of_some _ (kp b o e), ?_⟩
    refine Reads.tuple (as := []) (Heap.get?_push_size _ rfl) rfl rfl ?_
    have hint : (vs.toArray.size : Int) = (ns.length : Int) := by rw [List.size_toArray, hvl]
    rw [hint]
    refine ReadsAll.cons (as := []) (bs := []) (Reads.int _ _) (ReadsAll.cons (as := []) (bs := []) ?_ .nil)
    obtain ⟨o, ho, hc2, n, hd⟩ := ht2
    exact Reads.tuple (Heap.get?_push_of_some _ ho) hc2 hd (readsAll_nats hi)
  refine wpAny_call (codeAny_mono rc fun r s' hq => ?_)
  obtain ⟨v, rfl, hq⟩ := hq
  exact hq
/-- the heap is that, but for the table at P and new things that are no tables -/
def Tab1 (P : Addr) (H H' : Hp) : Prop := (∀ b o, b ≠ P → H b = some o → H' b = some o) ∧ ∀ b ps, H' b = some (.tbl ps) → b = P ∨ H b = some (.tbl ps)
theorem lam_mk {c P : Addr} {params : Arguments} {body : Expr} {scope : Scope} {pos : Pos} {E : Value → Shared → Prop} {Q : Value → Shared → Prop} (I : Inv X pins σ H s) (TBt : LamX.TabB X.base X.mg c P) (hcode : X.env.code = .ref c) (hT : LamX.TabS H P (X.env.qual ++ "<lambda>")) (hdef : defaultsOf params X.env = ([], [])) (hfree : ∀ y ∈ scope.names, y.2 = .free → ∃ c, X.env.cells.lookup y.1 = some c)
    (h : ∀ (f c' : Addr) (pm ctv : Value) (H1 : Hp) (s' : Shared), Inv X pins σ H1 s' → Tab1 P H H1 → LamX.TabS H1 P (X.env.qual ++ "<lambda>") →
      s'.heap.get? f = some (PySem.W.kla_obj "<lambda>" (X.env.qual ++ "<lambda>") params body scope (cloFrom X.env.cells scope.names []) pm c' ctv) → H1 c' = some (LamX.CodeO c' (X.env.qual ++ "<lambda>")) → Q (.ref f) s') :
    wpAny (model X.prog X.w) X.A (eval (.Lambda params body scope pos) X.env) Q E s := by
  obtain ⟨ps, hP, ht, ha⟩ := hT
  refine PySem.W.kla_eval hdef ?_
  have bP : s.heap.BuiltinsAt X.mg P := TBt.bm.keeps I.bk
  have hP' : s.heap.get? P = some { cls := .none, data := .fields ps } := I.hok P _ hP
  cases hc : codeAmong pos ps.toList with
  | none =>
    refine PySem.W.kla_makeFunction (mg := X.mg) (c := c) (P := P) (ps := ps) (closure_ok hfree) I.ok.glob (I.mod.glob.keeps I.bk) hcode (TBt.code.keeps I.bk) hP' ht hc TBt.gP bP fun c' ctv h' tk hx hge hlt hrec htb => ?_
    obtain ⟨c2, oc, vs, t, e2, hoc, hd, hv⟩ := hrec
    cases e2
    have nC : H c' = none := I.hok.fresh hge
    have I1 := LamX.inv_table (t' := tk) (more := #[rawInt pos.line, rawInt pos.col, .ref c']) (h' := h'.push (PySem.W.kla_obj "<lambda>" (X.env.qual ++ "<lambda>") params body scope (cloFrom X.env.cells scope.names []) ((X.mg "__name__").getD .none) c' ctv)) I hP
      (fun b o hb e => Heap.get?_push_of_some _ (hx b o hb e)) (Heap.get?_push_of_some _ htb) hge ⟨oc, vs, t, Heap.get?_push_of_some _ hoc, hd, hv⟩
    have hE : ∀ b o, b ≠ P → H b = some o → (upd (upd H P (.tbl (ps ++ #[rawInt pos.line, rawInt pos.col, .ref c']))) c' (LamX.CodeO c' (X.env.qual ++ "<lambda>"))) b = some o := fun b o n e => by
      rw [upd_ne (ne_of_none e nC), upd_ne n]
      exact e
    have eL : (ps ++ #[rawInt pos.line, rawInt pos.col, .ref c']).toList = ps.toList ++ [rawInt pos.line, rawInt pos.col, .ref c'] := by simp
    refine h h'.objs.size c' ((X.mg "__name__").getD .none) ctv _ _ I1 ⟨hE, fun b qs e => ?_⟩ ?_ (Heap.get?_push_size _ rfl) upd_same
    · by_cases hb : b = P
      · exact .inl hb
      · by_cases hb2 : b = c'
        · rw [hb2, upd_same] at e
          exact absurd (Option.some.inj e) (LamX.codeO_ne _)
        · rw [upd_ne hb2, upd_ne hb] at e
          exact .inr e
    · refine ⟨_, by rw [upd_ne (ne_of_none hP nC), upd_same], by rw [eL]; exact PySem.TriplesOk_snoc _ _ _ _ ht, fun p' cv hcv => ?_⟩
      rw [eL] at hcv
      rcases LamX.among_app _ ht hcv with z | z
      · obtain ⟨c0, e1, e2⟩ := ha p' cv z
        exact ⟨c0, e1, hE _ _ (fun z => by rw [z, hP] at e2; exact LamX.codeO_ne _ (Option.some.inj e2).symm) e2⟩
      · exact ⟨c', z, upd_same⟩
  | some cv =>
    obtain ⟨c', e, hco⟩ := ha pos cv hc
    subst e
    refine PySem.W.kla_makeFunctionHit (mg := X.mg) (c := c) (P := P) (ps := ps) (closure_ok hfree) I.ok.glob (I.mod.glob.keeps I.bk) hcode (TBt.code.keeps I.bk) hP' ht hc bP fun ctv h' tk hx hsz => ?_
    have I1 : Inv X pins σ H { s with heap := h'.push (PySem.W.kla_obj "<lambda>" (X.env.qual ++ "<lambda>") params body scope (cloFrom X.env.cells scope.names []) ((X.mg "__name__").getD .none) c' ctv), toks := tk } := I.kept fun b o e => Heap.get?_push_of_some _ (hx b o e)
    exact h h'.objs.size c' ((X.mg "__name__").getD .none) ctv H _ I1 ⟨fun _ _ _ e => e, fun _ _ e => .inr e⟩ ⟨ps, hP, ht, ha⟩ (Heap.get?_push_size _ rfl) hco
def tSortLam (K : PySem.W.Frag) (P : Addr) (q : Str) (tl : TE) : TE := fun σ H Q => tl σ H fun x H1 => ∃ (a : Addr) (bs : List (Addr × List Nat)), x = .ref a ∧ LamX.TabS H1 P q ∧ bs.length ≤ 1000 ∧ (∀ H2, Tab1 P H1 H2 → SqL K H2 a (bs.map fun b => V.ref b.1) ∧ ∀ b ∈ bs, SqT K H2 b.1 ((b.2.map fun (n : Nat) => (n : Int)).map V.int) ∧ b.2.length ≤ 1000) ∧
  ∀ (H2 : Hp) (p : Addr), Tab1 P H1 H2 → LamX.TabS H2 P q → H2 p = none → Q (.ref p) (upd H2 p (.lst ((bs.mergeSort (PySem.W.dataLe false fun b => lotKey b.2)).map fun b => V.ref b.1)))
theorem each_refs {h : Heap} : ∀ (bs : List (Addr × List Nat)), (∀ b ∈ bs, ∃ vs : List Value, h.IsTuple b.1 vs.toArray ∧ IntsAre vs (b.2.map fun (n : Nat) => (n : Int)) ∧ vs.length ≤ 1000) →
    PySem.W.EachIs (fun (v : Value) (b : Addr × List Nat) => v = .ref b.1 ∧ ∃ vs : List Value, h.IsTuple b.1 vs.toArray ∧ IntsAre vs (b.2.map fun (n : Nat) => (n : Int)) ∧ vs.length ≤ 1000) (bs.map fun b => Value.ref b.1) bs
  | [], _ => .nil
  | b :: bs, h => .cons ⟨rfl, h b List.mem_cons_self⟩ (each_refs bs fun x hx => h x (List.mem_cons_of_mem _ hx))
theorem each_out {R : Value → (Addr × List Nat) → Prop} (hR : ∀ v b, R v b → v = .ref b.1) : ∀ {out : List Value} {bs : List (Addr × List Nat)}, PySem.W.EachIs R out bs → out = bs.map fun b => Value.ref b.1
  | _, _, .nil => rfl
  | _, _, .cons h t => by rw [hR _ _ h, each_out hR t]; rfl
theorem vals_refs : ∀ (bs : List (Addr × List Nat)), Vals (bs.map fun b => V.ref b.1) (bs.map fun b => Value.ref b.1)
  | [] => .nil
  | b :: bs => .cons rfl (vals_refs bs)
theorem vals_refs_eq : ∀ {bs : List (Addr × List Nat)} {us : List Value}, Vals (bs.map fun b => V.ref b.1) us → us = bs.map fun b => Value.ref b.1
  | [], _, .nil => rfl
  | b :: bs, _, .cons r t => by
    cases r
    rw [vals_refs_eq t]
    rfl
theorem alike_nats : ∀ a b : List Nat, PySem.W.alikeAll (natsL a) (natsL b) = true := fun a b => by
  rw [natsL_ints, natsL_ints]
  exact PySem.W.alike_ints _ _
theorem pe_sortLam {c P : Addr} {p pos lp kp pa p1 p2 p3 p4 p5 : Pos} {l : Expr} {tl : TE} (K : PySem.W.Frag) (q : Str) (hm : X.mg "sorted" = none) (hlen : X.mg "len" = none) (TBt : LamX.TabB X.base X.mg c P) (hcode : X.env.code = .ref c) (hr : Room 3 X.A) (hl : PE X l tl) (hg : Gl X "sorted" := by rfl) (hK : X.K = K := by rfl) (hq : X.env.qual ++ "<lambda>" = q := by rfl)
    (he : backTo pos (starEach [l] X.env) = (false, eval l X.env) :: backTo pos (starEach [] X.env) := by rfl) (hp2 : (backTo pos (starEach [l] X.env)).any (·.1) = false := by rfl) :
    PE X (.Call (.Name "sorted" p) [l] [⟨some "key", .Lambda (lamP pa) (lamE p1 p2 p3 p4 p5) lamS lp, kp⟩] pos) (tSortLam K P q tl) := by
  subst hK hq
  refine ⟨fun pins s σ H Q I h => ?_⟩
  refine wpAny_Call_Name_kw (ld_blt I hg hm bt_sorted ?_)
  refine PyProof.Rows.callWith_kw ?_ he hp2 rfl rfl
  rw [he]
  refine Calls.spliced_cons (thn (hl.run pins s σ H _ I h) fun v s1 ⟨x, H1, I1, r1, q1⟩ => Calls.spliced_nil ?_)
  obtain ⟨a, bs, rfl, hT, hz, hS, hQ⟩ := q1
  cases r1
  show wpAny _ _ (evalAll [do let v ← eval (.Lambda (lamP pa) (lamE p1 p2 p3 p4 p5) lamS lp) X.env; standAt pos; pure v]) _ _ s1
  refine wpAny_evalAll_cons (wpAny_bind (lam_mk I1 TBt hcode hT rfl (fun y hy e => absurd e (lamS_nf y hy)) fun f c' pm ctv H2 s2 I2 t1 hT2 hf hc => wpAny_bind (wpAny_standAt (wpAny_pure (wpAny_evalAll_nil ?_)))))
  obtain ⟨hl2, hb2⟩ := hS H2 t1
  obtain ⟨its, rv, pl, hzz⟩ := I2.list hl2
  have eits := vals_refs_eq rv
  subst eits
  have tup : ∀ b ∈ bs, ∃ vs : List Value, s2.heap.IsTuple b.1 vs.toArray ∧ IntsAre vs (b.2.map fun (n : Nat) => (n : Int)) ∧ vs.length ≤ 1000 := fun b hb => by
    obtain ⟨h1, h2⟩ := hb2 b hb
    obtain ⟨ts, rt, pt, _⟩ := I2.tuple h1
    have := rt.length
    rw [List.length_map, List.length_map] at this
    exact ⟨ts, pt, rt.ints, by omega⟩
  have dle : ∀ ns : List Nat, (lotKey ns).depth ≤ 2 := fun ns => (pl_tup (n := 1) (ds := [.int (ns.length : Int), tupN ns]) fun d hd => by
    rcases List.mem_cons.mp hd with e | e
    · rw [e]; exact pl_int _
    · rw [List.mem_singleton.mp e]; exact pl_tupN ns).2
  refine PySem.W.sorted_key_data (b := false) (fun b : Addr × List Nat => lotKey b.2) pl.isList (each_refs bs tup) (PySem.W.AllAlike.of fun b b' => ?_) (PySem.W.Sortable.tuples fun _ => ⟨_, _, rfl⟩) (Nat.le_trans hz (by decide)) (fun b _ => ?_) (ksk_s1 _ _) (fun _ => ksk_l1 _ _) (fun _ => ksk_t1 _ _)
    (fun v b R hb h tk kp => ?_) fun out e h' tk kp hn hD hlen2 eo => ?_
  · show PySem.W.alikeAll [.int (b.2.length : Int), tupN b.2] [.int (b'.2.length : Int), tupN b'.2] = true
    have := alike_nats b.2 b'.2
    simp [PySem.W.alikeAll, PySem.W.alike, tupN, this]
  · have h1 := hr.units
    have h2 := dle b.2
    show X.A.units + 2 + (lotKey b.2).depth < cLine
    omega
  · obtain ⟨rfl, vs, h1, h2, h3⟩ := R
    exact lam_turn I2 hr hlen kp hf hc h1 h2 h3
  · have eout := each_out (fun v b z => z.1) eo
    have hp : H2 (s2.heap.objs.size + 1) = none := I2.hok.fresh (Nat.le_succ _)
    refine ⟨.ref (s2.heap.objs.size + 1), _, I2.laid (t' := tk) kp (Nat.le_succ _) (o := .lst ((bs.mergeSort (PySem.W.dataLe false fun b => lotKey b.2)).map fun b => V.ref b.1)) ⟨?_, out, e, ?_, hD⟩, rfl, hQ H2 _ t1 hT2 hp⟩
    · rw [List.length_map, List.length_mergeSort]
      exact Nat.le_trans hz (by decide)
    · rw [eout]
      exact vals_refs _
end
end TB
set_option Elab.async false
set_option linter.all false
set_option autoImplicit false
set_option maxRecDepth 100000
set_option maxHeartbeats 4000000
/-! the sort of lots, on data -/
namespace TB
open PySem PySem.Spec PyProof.Rows L2
section
variable {g : Gb} {ρ : Rho} {tl : TE}
theorem Gr.tab {lf : Option Addr} {F H H2 : Hp} (w : Wl g lf F H) (t : Tab1 g.T H H2) (hT : LamX.TabS H2 g.T g.q) : Gr g lf F H F H2 where
  ff := Same.refl F
  hh := fun a o h1 _ h => t.1 a o h1 h
  nw := fun _ _ h _ => h
  wl := ⟨fun b u e => t.1 b u (fun z => by rw [z, w.fT] at e; cases e) (w.same b u e), hT, w.fT, fun l hl => by
      obtain ⟨f1, a, b, h1, h2⟩ := w.feed l hl
      refine ⟨f1, a, b, t.1 l _ (fun z => ?_) h1, h2⟩
      obtain ⟨ps, hP⟩ := w.tbl
      rw [← z, h1] at hP
      exact absurd (Option.some.inj hP) (fun z => by cases z), fun b ps e => (t.2 b ps e).elim id fun e' => w.one b ps e'⟩
theorem lots_addr {F : Hp} : ∀ {lots : List (List Nat)} {xs : List V}, DqAll F xs (lots.map tupN) → ∃ bs : List (Addr × List Nat), xs = bs.map (fun b => V.ref b.1) ∧ bs.map (·.2) = lots ∧ ∀ b ∈ bs, F b.1 = some (.tup ((b.2.map fun (n : Nat) => (n : Int)).map V.int))
  | [], _, .nil => ⟨[], rfl, rfl, fun _ h => by cases h⟩
  | l :: lots, _, .cons h t => by
    obtain ⟨bs, h1, h2, h3⟩ := lots_addr t
    obtain ⟨a, ys, rfl, h4, h5⟩ := Dq.tup_of h
    rw [natsL_ints] at h5
    rw [h5.ints] at h4
    refine ⟨(a, l) :: bs, by rw [h1]; rfl, by rw [← h2]; rfl, fun b hb => ?_⟩
    rcases List.mem_cons.mp hb with e | e
    · rw [e]; exact h4
    · exact h3 b e
theorem addr_lots {F : Hp} : ∀ {bs : List (Addr × List Nat)}, (∀ b ∈ bs, F b.1 = some (.tup ((b.2.map fun (n : Nat) => (n : Int)).map V.int))) → DqAll F (bs.map fun b => V.ref b.1) ((bs.map (·.2)).map tupN)
  | [], _ => .nil
  | b :: bs, h => by
    refine .cons (Dq.tup (h b List.mem_cons_self) ?_) (addr_lots fun x hx => h x (List.mem_cons_of_mem _ hx))
    rw [natsL_ints]
    exact DqAll.of_ints _
theorem ev_sortLam {lots L : List (List Nat)} (hl : Ev g tl ρ (.d (.list (lots.map tupN)))) (hz : lots.length ≤ 1000) (hz2 : ∀ l ∈ lots, l.length ≤ 1000)
    (hu : ∀ L' : List (List Nat), L'.Perm lots → L'.Pairwise (fun a b => PySem.W.dataLt (lotKey b) (lotKey a) = false) → L' = L) : Ev g (tSortLam g.K g.T g.q tl) ρ (.d (.list (L.map tupN))) := fun e σ F H E Q q => hl e σ F H E _ fun v F1 H1 x r1 rx p => by
  subst p
  obtain ⟨a, xs, rfl, h1, h2⟩ := Dq.lst_of rx
  obtain ⟨bs, rfl, hb, h3⟩ := lots_addr h2
  have hlen : bs.length = lots.length := by rw [← hb, List.length_map]
  refine ⟨a, bs, rfl, r1.wl.tab, by omega, fun H2 t => ?_, fun H2 p t hT hp => ?_⟩
  · have nT : ∀ b o, F1 b = some o → H2 b = some o := fun b o e => t.1 b o (fun z => by rw [z, r1.wl.fT] at e; cases e) (r1.wl.same b o e)
    exact ⟨SqL.of (nT _ _ h1), fun b hm => ⟨SqT.of (nT _ _ (h3 b hm)), hz2 _ (by rw [← hb]; exact List.mem_map.mpr ⟨b, hm, rfl⟩)⟩⟩
  · have r2 := Gr.tab r1.wl t hT
    have tot := PySem.W.sortLe_total (listOrd itemOrd) false (fun b : Addr × List Nat => PySem.W.keyToks (lotKey b.2))
    have pm : (bs.mergeSort (PySem.W.dataLe false fun b => lotKey b.2)).Perm bs := List.mergeSort_perm _ _
    have pw := List.pairwise_mergeSort (le := PySem.W.dataLe false fun b : Addr × List Nat => lotKey b.2) (fun a b c => tot.trans a b c) (fun a b => by have := tot.total a b; rw [Bool.or_eq_true]; exact this) bs
    have eL : (bs.mergeSort (PySem.W.dataLe false fun b => lotKey b.2)).map (·.2) = L := by
      refine hu _ (by rw [← hb]; exact pm.map _) (List.pairwise_map.mpr (pw.imp fun {x y} h => ?_))
      have h' : (!PySem.W.dataLt (lotKey y.2) (lotKey x.2)) = true := h
      simpa using h'
    have r3 : Gr g e.lf F1 H2 (upd F1 p (.lst ((bs.mergeSort (PySem.W.dataLe false fun b => lotKey b.2)).map fun b => V.ref b.1))) (upd H2 p (.lst ((bs.mergeSort (PySem.W.dataLe false fun b => lotKey b.2)).map fun b => V.ref b.1))) := Gr.new r2.wl hp
    refine q _ _ _ (.d (.list (L.map tupN))) (r1.step E (r2.trans r1.wl r3)) (rx_d (Dq.lst upd_same ?_)) rfl
    rw [← eL]
    refine DqAll.mono r3.ff (addr_lots fun b hm => h3 b (pm.mem_iff.mp hm))
/-- there is just one such list -/
theorem lots_uniq : ∀ {l l' : List (List Nat)}, l'.Perm l → l'.Pairwise (fun a b => PySem.W.dataLt (lotKey b) (lotKey a) = false) → l.Pairwise (fun a b => PySem.W.dataLt (lotKey a) (lotKey b) = true) → l' = l
  | [], l', p, _, _ => List.perm_nil.mp p
  | a :: l, [], p, _, _ => absurd p (List.not_perm_nil_cons _ _)
  | a :: l, b :: l', p, h1, h2 => by
    have e : b = a := by
      have ha : a ∈ b :: l' := p.mem_iff.mpr List.mem_cons_self
      have hb : b ∈ a :: l := p.mem_iff.mp List.mem_cons_self
      rcases List.mem_cons.mp hb with z | z
      · exact z
      · rcases List.mem_cons.mp ha with y | y
        · exact y.symm
        · have e1 := (List.pairwise_cons.mp h1).1 a y
          have e2 := (List.pairwise_cons.mp h2).1 b z
          rw [e2] at e1
          cases e1
    subst e
    rw [lots_uniq (List.perm_cons b |>.mp p) (List.pairwise_cons.mp h1).2 (List.pairwise_cons.mp h2).2]
end
end TB
set_option Elab.async false
set_option linter.all false
set_option autoImplicit false
set_option maxRecDepth 100000
set_option maxHeartbeats 4000000
/-! what is known of the text, name by name (printed by mk14.py) -/
namespace TB
open PySem PySem.Spec PyProof.Rows L2
structure Txt (g : Gb) (mg : Str → Option Value) (base : Heap) : Prop where
  sd : He.SaysD fa fn g.K
  kin : g.K.In base
  ns : base.Ns mainGlobals mg
  tb : LamX.TabB base mg (He.codeOf g.K ("all_lots", none)) g.T
  qn : g.q = "all_lots.<locals>.<lambda>"
section
variable {g : Gb} {mg : Str → Option Value} {base : Heap}
theorem h_is_number (c : Txt g mg base) : HasF g.K mg "is_number" sis_number := ⟨c.sd.def_ 0 (d := dis_number) rfl, He.glo_ok c.kin c.ns (c.sd.fact 0 (f := .glo "is_number") rfl)⟩
theorem h_is_road (c : Txt g mg base) : HasF g.K mg "is_road" sis_road := ⟨c.sd.def_ 1 (d := dis_road) rfl, He.glo_ok c.kin c.ns (c.sd.fact 1 (f := .glo "is_road") rfl)⟩
theorem h_are_numbers (c : Txt g mg base) : HasF g.K mg "are_numbers" sare_numbers := ⟨c.sd.def_ 2 (d := dare_numbers) rfl, He.glo_ok c.kin c.ns (c.sd.fact 2 (f := .glo "are_numbers") rfl)⟩
theorem h_is_lot (c : Txt g mg base) : HasF g.K mg "is_lot" sis_lot := ⟨c.sd.def_ 3 (d := dis_lot) rfl, He.glo_ok c.kin c.ns (c.sd.fact 3 (f := .glo "is_lot") rfl)⟩
theorem h_lot_of (c : Txt g mg base) : HasF g.K mg "lot_of" slot_of := ⟨c.sd.def_ 4 (d := dlot_of) rfl, He.glo_ok c.kin c.ns (c.sd.fact 4 (f := .glo "lot_of") rfl)⟩
theorem h_mask_of (c : Txt g mg base) : HasF g.K mg "mask_of" smask_of := ⟨c.sd.def_ 5 (d := dmask_of) rfl, He.glo_ok c.kin c.ns (c.sd.fact 5 (f := .glo "mask_of") rfl)⟩
theorem h_all_lots (c : Txt g mg base) : HasF g.K mg "all_lots" sall_lots := ⟨c.sd.def_ 6 (d := dall_lots) rfl, He.glo_ok c.kin c.ns (c.sd.fact 6 (f := .glo "all_lots") rfl)⟩
theorem h_inflow (c : Txt g mg base) : HasF g.K mg "inflow" sinflow := ⟨c.sd.def_ 7 (d := dinflow) rfl, He.glo_ok c.kin c.ns (c.sd.fact 7 (f := .glo "inflow") rfl)⟩
theorem h_led_to (c : Txt g mg base) : HasF g.K mg "led_to" sled_to := ⟨c.sd.def_ 8 (d := dled_to) rfl, He.glo_ok c.kin c.ns (c.sd.fact 8 (f := .glo "led_to") rfl)⟩
theorem h_reached (c : Txt g mg base) : HasF g.K mg "reached" sreached := ⟨c.sd.def_ 9 (d := dreached) rfl, He.glo_ok c.kin c.ns (c.sd.fact 9 (f := .glo "reached") rfl)⟩
theorem h_inflows (c : Txt g mg base) : HasF g.K mg "inflows" sinflows := ⟨c.sd.def_ 10 (d := dinflows) rfl, He.glo_ok c.kin c.ns (c.sd.fact 10 (f := .glo "inflows") rfl)⟩
theorem h_is_count (c : Txt g mg base) : HasF g.K mg "is_count" sis_count := ⟨c.sd.def_ 11 (d := dis_count) rfl, He.glo_ok c.kin c.ns (c.sd.fact 11 (f := .glo "is_count") rfl)⟩
theorem h_is_row (c : Txt g mg base) : HasF g.K mg "is_row" sis_row := ⟨c.sd.def_ 12 (d := dis_row) rfl, He.glo_ok c.kin c.ns (c.sd.fact 12 (f := .glo "is_row") rfl)⟩
theorem h_is_forest (c : Txt g mg base) : HasF g.K mg "is_forest" sis_forest := ⟨c.sd.def_ 13 (d := dis_forest) rfl, He.glo_ok c.kin c.ns (c.sd.fact 13 (f := .glo "is_forest") rfl)⟩
theorem h_is_entry (c : Txt g mg base) : HasF g.K mg "is_entry" sis_entry := ⟨c.sd.def_ 14 (d := dis_entry) rfl, He.glo_ok c.kin c.ns (c.sd.fact 14 (f := .glo "is_entry") rfl)⟩
theorem h_fits (c : Txt g mg base) : HasF g.K mg "fits" sfits := ⟨c.sd.def_ 15 (d := dfits) rfl, He.glo_ok c.kin c.ns (c.sd.fact 15 (f := .glo "fits") rfl)⟩
theorem h_sums_of (c : Txt g mg base) : HasF g.K mg "sums_of" ssums_of := ⟨c.sd.def_ 16 (d := dsums_of) rfl, He.glo_ok c.kin c.ns (c.sd.fact 16 (f := .glo "sums_of") rfl)⟩
theorem h_is_plan (c : Txt g mg base) : HasF g.K mg "is_plan" sis_plan := ⟨c.sd.def_ 17 (d := dis_plan) rfl, He.glo_ok c.kin c.ns (c.sd.fact 17 (f := .glo "is_plan") rfl)⟩
theorem h_spares (c : Txt g mg base) : HasF g.K mg "spares" sspares := ⟨c.sd.def_ 18 (d := dspares) rfl, He.glo_ok c.kin c.ns (c.sd.fact 18 (f := .glo "spares") rfl)⟩
theorem h_is_strained (c : Txt g mg base) : HasF g.K mg "is_strained" sis_strained := ⟨c.sd.def_ 19 (d := dis_strained) rfl, He.glo_ok c.kin c.ns (c.sd.fact 19 (f := .glo "is_strained") rfl)⟩
theorem h_next_road (c : Txt g mg base) : HasF g.K mg "next_road" snext_road := ⟨c.sd.def_ 20 (d := dnext_road) rfl, He.glo_ok c.kin c.ns (c.sd.fact 20 (f := .glo "next_road") rfl)⟩
theorem h_grown (c : Txt g mg base) : HasF g.K mg "grown" sgrown := ⟨c.sd.def_ 21 (d := dgrown) rfl, He.glo_ok c.kin c.ns (c.sd.fact 21 (f := .glo "grown") rfl)⟩
theorem h_most_times (c : Txt g mg base) : HasF g.K mg "most_times" smost_times := ⟨c.sd.def_ 22 (d := dmost_times) rfl, He.glo_ok c.kin c.ns (c.sd.fact 22 (f := .glo "most_times") rfl)⟩
theorem h_narrowed (c : Txt g mg base) : HasF g.K mg "narrowed" snarrowed := ⟨c.sd.def_ 23 (d := dnarrowed) rfl, He.glo_ok c.kin c.ns (c.sd.fact 23 (f := .glo "narrowed") rfl)⟩
theorem h_grow (c : Txt g mg base) : HasF g.K mg "grow" sgrow := ⟨c.sd.def_ 24 (d := dgrow) rfl, He.glo_ok c.kin c.ns (c.sd.fact 24 (f := .glo "grow") rfl)⟩
theorem h_streams_of (c : Txt g mg base) : HasF g.K mg "streams_of" sstreams_of := ⟨c.sd.def_ 25 (d := dstreams_of) rfl, He.glo_ok c.kin c.ns (c.sd.fact 25 (f := .glo "streams_of") rfl)⟩
theorem h_plan (c : Txt g mg base) : HasF g.K mg "plan" splan := ⟨c.sd.def_ 26 (d := dplan) rfl, He.glo_ok c.kin c.ns (c.sd.fact 26 (f := .glo "plan") rfl)⟩
theorem h_is_part (c : Txt g mg base) : HasF g.K mg "is_part" sis_part := ⟨c.sd.def_ 27 (d := dis_part) rfl, He.glo_ok c.kin c.ns (c.sd.fact 27 (f := .glo "is_part") rfl)⟩
theorem h_is_begun (c : Txt g mg base) : HasF g.K mg "is_begun" sis_begun := ⟨c.sd.def_ 28 (d := dis_begun) rfl, He.glo_ok c.kin c.ns (c.sd.fact 28 (f := .glo "is_begun") rfl)⟩
theorem h_pieces_of (c : Txt g mg base) : HasF g.K mg "pieces_of" spieces_of := ⟨c.sd.def_ 29 (d := dpieces_of) rfl, He.glo_ok c.kin c.ns (c.sd.fact 29 (f := .glo "pieces_of") rfl)⟩
theorem h_streams_left (c : Txt g mg base) : HasF g.K mg "streams_left" sstreams_left := ⟨c.sd.def_ 30 (d := dstreams_left) rfl, He.glo_ok c.kin c.ns (c.sd.fact 30 (f := .glo "streams_left") rfl)⟩
theorem h_finish (c : Txt g mg base) : HasF g.K mg "finish" sfinish := ⟨c.sd.def_ 31 (d := dfinish) rfl, He.glo_ok c.kin c.ns (c.sd.fact 31 (f := .glo "finish") rfl)⟩
theorem h_is_part_finished (c : Txt g mg base) : HasF g.K mg "is_part_finished" sis_part_finished := ⟨c.sd.def_ 32 (d := dis_part_finished) rfl, He.glo_ok c.kin c.ns (c.sd.fact 32 (f := .glo "is_part_finished") rfl)⟩
theorem h_is_finish (c : Txt g mg base) : HasF g.K mg "is_finish" sis_finish := ⟨c.sd.def_ 33 (d := dis_finish) rfl, He.glo_ok c.kin c.ns (c.sd.fact 33 (f := .glo "is_finish") rfl)⟩
theorem h_is_message (c : Txt g mg base) : HasF g.K mg "is_message" sis_message := ⟨c.sd.def_ 34 (d := dis_message) rfl, He.glo_ok c.kin c.ns (c.sd.fact 34 (f := .glo "is_message") rfl)⟩
theorem h_meet (c : Txt g mg base) : HasF g.K mg "meet" smeet := ⟨c.sd.def_ 35 (d := dmeet) rfl, He.glo_ok c.kin c.ns (c.sd.fact 35 (f := .glo "meet") rfl)⟩
theorem h__law_feed (c : Txt g mg base) : HasF g.K mg "_law_feed" s_law_feed := ⟨c.sd.def_ 36 (d := d_law_feed) rfl, He.glo_ok c.kin c.ns (c.sd.fact 36 (f := .glo "_law_feed") rfl)⟩
theorem h__law_take (c : Txt g mg base) : HasF g.K mg "_law_take" s_law_take := ⟨c.sd.def_ 37 (d := d_law_take) rfl, He.glo_ok c.kin c.ns (c.sd.fact 37 (f := .glo "_law_take") rfl)⟩
theorem h__law_pick (c : Txt g mg base) : HasF g.K mg "_law_pick" s_law_pick := ⟨c.sd.def_ 38 (d := d_law_pick) rfl, He.glo_ok c.kin c.ns (c.sd.fact 38 (f := .glo "_law_pick") rfl)⟩
theorem h__law_net (c : Txt g mg base) : HasF g.K mg "_law_net" s_law_net := ⟨c.sd.def_ 39 (d := d_law_net) rfl, He.glo_ok c.kin c.ns (c.sd.fact 39 (f := .glo "_law_net") rfl)⟩
theorem h__law_lots (c : Txt g mg base) : HasF g.K mg "_law_lots" s_law_lots := ⟨c.sd.def_ 40 (d := d_law_lots) rfl, He.glo_ok c.kin c.ns (c.sd.fact 40 (f := .glo "_law_lots") rfl)⟩
theorem h__law_enters (c : Txt g mg base) : HasF g.K mg "_law_enters" s_law_enters := ⟨c.sd.def_ 41 (d := d_law_enters) rfl, He.glo_ok c.kin c.ns (c.sd.fact 41 (f := .glo "_law_enters") rfl)⟩
theorem h__law_flow (c : Txt g mg base) : HasF g.K mg "_law_flow" s_law_flow := ⟨c.sd.def_ 42 (d := d_law_flow) rfl, He.glo_ok c.kin c.ns (c.sd.fact 42 (f := .glo "_law_flow") rfl)⟩
theorem h__law_led (c : Txt g mg base) : HasF g.K mg "_law_led" s_law_led := ⟨c.sd.def_ 43 (d := d_law_led) rfl, He.glo_ok c.kin c.ns (c.sd.fact 43 (f := .glo "_law_led") rfl)⟩
theorem h__law_meet (c : Txt g mg base) : HasF g.K mg "_law_meet" s_law_meet := ⟨c.sd.def_ 44 (d := d_law_meet) rfl, He.glo_ok c.kin c.ns (c.sd.fact 44 (f := .glo "_law_meet") rfl)⟩
theorem h__law_need (c : Txt g mg base) : HasF g.K mg "_law_need" s_law_need := ⟨c.sd.def_ 45 (d := d_law_need) rfl, He.glo_ok c.kin c.ns (c.sd.fact 45 (f := .glo "_law_need") rfl)⟩
theorem h__law_heards (c : Txt g mg base) : HasF g.K mg "_law_heards" s_law_heards := ⟨c.sd.def_ 46 (d := d_law_heards) rfl, He.glo_ok c.kin c.ns (c.sd.fact 46 (f := .glo "_law_heards") rfl)⟩
theorem h__law_rows (c : Txt g mg base) : HasF g.K mg "_law_rows" s_law_rows := ⟨c.sd.def_ 47 (d := d_law_rows) rfl, He.glo_ok c.kin c.ns (c.sd.fact 47 (f := .glo "_law_rows") rfl)⟩
theorem h__law_lot (c : Txt g mg base) : HasF g.K mg "_law_lot" s_law_lot := ⟨c.sd.def_ 48 (d := d_law_lot) rfl, He.glo_ok c.kin c.ns (c.sd.fact 48 (f := .glo "_law_lot") rfl)⟩
theorem h__law_message (c : Txt g mg base) : HasF g.K mg "_law_message" s_law_message := ⟨c.sd.def_ 49 (d := d_law_message) rfl, He.glo_ok c.kin c.ns (c.sd.fact 49 (f := .glo "_law_message") rfl)⟩
theorem h__law_news (c : Txt g mg base) : HasF g.K mg "_law_news" s_law_news := ⟨c.sd.def_ 50 (d := d_law_news) rfl, He.glo_ok c.kin c.ns (c.sd.fact 50 (f := .glo "_law_news") rfl)⟩
theorem h__law_forest (c : Txt g mg base) : HasF g.K mg "_law_forest" s_law_forest := ⟨c.sd.def_ 51 (d := d_law_forest) rfl, He.glo_ok c.kin c.ns (c.sd.fact 51 (f := .glo "_law_forest") rfl)⟩
theorem h__law_is_row (c : Txt g mg base) : HasF g.K mg "_law_is_row" s_law_is_row := ⟨c.sd.def_ 52 (d := d_law_is_row) rfl, He.glo_ok c.kin c.ns (c.sd.fact 52 (f := .glo "_law_is_row") rfl)⟩
theorem h__law_is_led (c : Txt g mg base) : HasF g.K mg "_law_is_led" s_law_is_led := ⟨c.sd.def_ 53 (d := d_law_is_led) rfl, He.glo_ok c.kin c.ns (c.sd.fact 53 (f := .glo "_law_is_led") rfl)⟩
theorem h__law_is_forest (c : Txt g mg base) : HasF g.K mg "_law_is_forest" s_law_is_forest := ⟨c.sd.def_ 54 (d := d_law_is_forest) rfl, He.glo_ok c.kin c.ns (c.sd.fact 54 (f := .glo "_law_is_forest") rfl)⟩
theorem h__law_is_entry (c : Txt g mg base) : HasF g.K mg "_law_is_entry" s_law_is_entry := ⟨c.sd.def_ 55 (d := d_law_is_entry) rfl, He.glo_ok c.kin c.ns (c.sd.fact 55 (f := .glo "_law_is_entry") rfl)⟩
theorem h__law_bear (c : Txt g mg base) : HasF g.K mg "_law_bear" s_law_bear := ⟨c.sd.def_ 56 (d := d_law_bear) rfl, He.glo_ok c.kin c.ns (c.sd.fact 56 (f := .glo "_law_bear") rfl)⟩
theorem h__law_is_plan (c : Txt g mg base) : HasF g.K mg "_law_is_plan" s_law_is_plan := ⟨c.sd.def_ 57 (d := d_law_is_plan) rfl, He.glo_ok c.kin c.ns (c.sd.fact 57 (f := .glo "_law_is_plan") rfl)⟩
theorem h__law_is_begun_so (c : Txt g mg base) : HasF g.K mg "_law_is_begun_so" s_law_is_begun_so := ⟨c.sd.def_ 58 (d := d_law_is_begun_so) rfl, He.glo_ok c.kin c.ns (c.sd.fact 58 (f := .glo "_law_is_begun_so") rfl)⟩
theorem h__law_left_rows (c : Txt g mg base) : HasF g.K mg "_law_left_rows" s_law_left_rows := ⟨c.sd.def_ 59 (d := d_law_left_rows) rfl, He.glo_ok c.kin c.ns (c.sd.fact 59 (f := .glo "_law_left_rows") rfl)⟩
theorem h__law_is_finish (c : Txt g mg base) : HasF g.K mg "_law_is_finish" s_law_is_finish := ⟨c.sd.def_ 60 (d := d_law_is_finish) rfl, He.glo_ok c.kin c.ns (c.sd.fact 60 (f := .glo "_law_is_finish") rfl)⟩
theorem h__law_begun_of (c : Txt g mg base) : HasF g.K mg "_law_begun_of" s_law_begun_of := ⟨c.sd.def_ 61 (d := d_law_begun_of) rfl, He.glo_ok c.kin c.ns (c.sd.fact 61 (f := .glo "_law_begun_of") rfl)⟩
theorem h__law_told_right (c : Txt g mg base) : HasF g.K mg "_law_told_right" s_law_told_right := ⟨c.sd.def_ 62 (d := d_law_told_right) rfl, He.glo_ok c.kin c.ns (c.sd.fact 62 (f := .glo "_law_told_right") rfl)⟩
theorem h_law (c : Txt g mg base) : HasF g.K mg "law" slaw := ⟨c.sd.def_ 63 (d := dlaw) rfl, He.glo_ok c.kin c.ns (c.sd.fact 63 (f := .glo "law") rfl)⟩
theorem h_Net___init__ (c : Txt g mg base) : HasM g.K "Net" "__init__" "Net.__init__" sNet___init__ := ⟨c.sd.def_ 64 (d := dNet___init__) rfl, He.meth_ok (c.sd.fact 75 (f := .meth "Net" "__init__") rfl)⟩
theorem h_Net___len__ (c : Txt g mg base) : HasM g.K "Net" "__len__" "Net.__len__" sNet___len__ := ⟨c.sd.def_ 65 (d := dNet___len__) rfl, He.meth_ok (c.sd.fact 76 (f := .meth "Net" "__len__") rfl)⟩
theorem h_Net_roads (c : Txt g mg base) : HasM g.K "Net" "roads" "Net.roads" sNet_roads := ⟨c.sd.def_ 66 (d := dNet_roads) rfl, He.meth_ok (c.sd.fact 77 (f := .meth "Net" "roads") rfl)⟩
theorem h_News___init__ (c : Txt g mg base) : HasM g.K "News" "__init__" "News.__init__" sNews___init__ := ⟨c.sd.def_ 67 (d := dNews___init__) rfl, He.meth_ok (c.sd.fact 78 (f := .meth "News" "__init__") rfl)⟩
theorem h_News_messages (c : Txt g mg base) : HasM g.K "News" "messages" "News.messages" sNews_messages := ⟨c.sd.def_ 68 (d := dNews_messages) rfl, He.meth_ok (c.sd.fact 79 (f := .meth "News" "messages") rfl)⟩
theorem h_News_hearing (c : Txt g mg base) : HasM g.K "News" "hearing" "News.hearing" sNews_hearing := ⟨c.sd.def_ 69 (d := dNews_hearing) rfl, He.meth_ok (c.sd.fact 80 (f := .meth "News" "hearing") rfl)⟩
theorem h_News_need (c : Txt g mg base) : HasM g.K "News" "need" "News.need" sNews_need := ⟨c.sd.def_ 70 (d := dNews_need) rfl, He.meth_ok (c.sd.fact 81 (f := .meth "News" "need") rfl)⟩
theorem h_News_lack (c : Txt g mg base) : HasM g.K "News" "lack" "News.lack" sNews_lack := ⟨c.sd.def_ 71 (d := dNews_lack) rfl, He.meth_ok (c.sd.fact 82 (f := .meth "News" "lack") rfl)⟩
theorem cl_Net (c : Txt g mg base) : Cls g.K (He.ga g.K "Net") := He.cls_ok (c.sd.fact 65 (f := .cls "Net") rfl)
theorem mk_Net (c : Txt g mg base) : Mk g.K (He.ga g.K "Net") (He.ma g.K (He.ga g.K "Net") "__init__") := He.mkr_ok (c.sd.fact 66 (f := .mkr "Net") rfl)
theorem gl_Net (c : Txt g mg base) : mg "Net" = some (.ref (He.ga g.K "Net")) := He.glo_ok c.kin c.ns (c.sd.fact 64 (f := .glo "Net") rfl)
theorem cl_News (c : Txt g mg base) : Cls g.K (He.ga g.K "News") := He.cls_ok (c.sd.fact 68 (f := .cls "News") rfl)
theorem mk_News (c : Txt g mg base) : Mk g.K (He.ga g.K "News") (He.ma g.K (He.ga g.K "News") "__init__") := He.mkr_ok (c.sd.fact 69 (f := .mkr "News") rfl)
theorem gl_News (c : Txt g mg base) : mg "News" = some (.ref (He.ga g.K "News")) := He.glo_ok c.kin c.ns (c.sd.fact 67 (f := .glo "News") rfl)
theorem na_Net_places (c : Txt g mg base) : NoAttr g.K (He.ga g.K "Net") "places" := He.noat_ok (c.sd.fact 70 (f := .noat "Net" "places") rfl)
theorem na_Net_built (c : Txt g mg base) : NoAttr g.K (He.ga g.K "Net") "built" := He.noat_ok (c.sd.fact 71 (f := .noat "Net" "built") rfl)
theorem na_News_net (c : Txt g mg base) : NoAttr g.K (He.ga g.K "News") "net" := He.noat_ok (c.sd.fact 72 (f := .noat "News" "net") rfl)
theorem na_News_told (c : Txt g mg base) : NoAttr g.K (He.ga g.K "News") "told" := He.noat_ok (c.sd.fact 73 (f := .noat "News" "told") rfl)
theorem na_News_heard (c : Txt g mg base) : NoAttr g.K (He.ga g.K "News") "heard" := He.noat_ok (c.sd.fact 74 (f := .noat "News" "heard") rfl)
theorem k_MOST_HOUSES (c : Txt g mg base) : ∃ t, mg "MOST_HOUSES" = some (.int 6 t) := He.int_ok c.kin c.ns (c.sd.fact 101 (f := .int "MOST_HOUSES" 6) rfl)
theorem k_MOST_ROADS (c : Txt g mg base) : ∃ t, mg "MOST_ROADS" = some (.int 12 t) := He.int_ok c.kin c.ns (c.sd.fact 102 (f := .int "MOST_ROADS" 12) rfl)
theorem k_WIDEST (c : Txt g mg base) : ∃ t, mg "WIDEST" = some (.int 1000000000 t) := He.int_ok c.kin c.ns (c.sd.fact 103 (f := .int "WIDEST" 1000000000) rfl)
theorem k_MOST_BEGUN (c : Txt g mg base) : ∃ t, mg "MOST_BEGUN" = some (.int 6 t) := He.int_ok c.kin c.ns (c.sd.fact 104 (f := .int "MOST_BEGUN" 6) rfl)
theorem k_MOST_MESSAGES (c : Txt g mg base) : ∃ t, mg "MOST_MESSAGES" = some (.int 3 t) := He.int_ok c.kin c.ns (c.sd.fact 105 (f := .int "MOST_MESSAGES" 3) rfl)
theorem k_MOST_PIECES (c : Txt g mg base) : ∃ t, mg "MOST_PIECES" = some (.int 1000000000000 t) := He.int_ok c.kin c.ns (c.sd.fact 106 (f := .int "MOST_PIECES" 1000000000000) rfl)
theorem txt_tx (c : Txt g mg base) : Tx mg :=
  ⟨He.free_ok c.kin c.ns (c.sd.fact 83 (f := .free "len") rfl), He.free_ok c.kin c.ns (c.sd.fact 84 (f := .free "isinstance") rfl), He.free_ok c.kin c.ns (c.sd.fact 89 (f := .free "all") rfl), He.free_ok c.kin c.ns (c.sd.fact 90 (f := .free "any") rfl), He.free_ok c.kin c.ns (c.sd.fact 91 (f := .free "sum") rfl), He.free_ok c.kin c.ns (c.sd.fact 92 (f := .free "min") rfl), He.free_ok c.kin c.ns (c.sd.fact 93 (f := .free "max") rfl), He.free_ok c.kin c.ns (c.sd.fact 97 (f := .free "sorted") rfl), He.free_ok c.kin c.ns (c.sd.fact 100 (f := .free "abs") rfl), He.free_ok c.kin c.ns (c.sd.fact 99 (f := .free "repr") rfl), He.free_ok c.kin c.ns (c.sd.fact 85 (f := .free "int") rfl), He.free_ok c.kin c.ns (c.sd.fact 86 (f := .free "bool") rfl), He.free_ok c.kin c.ns (c.sd.fact 87 (f := .free "tuple") rfl), He.free_ok c.kin c.ns (c.sd.fact 88 (f := .free "list") rfl), He.free_ok c.kin c.ns (c.sd.fact 98 (f := .free "set") rfl), He.free_ok c.kin c.ns (c.sd.fact 94 (f := .free "range") rfl), He.free_ok c.kin c.ns (c.sd.fact 95 (f := .free "enumerate") rfl), He.free_ok c.kin c.ns (c.sd.fact 96 (f := .free "zip") rfl)⟩
end
end TB
set_option Elab.async false
set_option linter.all false
set_option autoImplicit false
set_option maxRecDepth 100000
set_option maxHeartbeats 4000000
/-! what the program computes, in plain Lean: definitions -/
namespace TB
open PySem
abbrev Msg := List Nat × Int
abbrev Ent := Nat × List Nat × Int
abbrev Rwx := List Nat × Int
abbrev Stm := Nat × Nat × Int
def msgD (m : Msg) : PyData := .tuple [tupN m.1, .int m.2]
def entD (e : Ent) : PyData := .tuple [.int (e.1 : Int), tupN e.2.1, .int e.2.2]
def rwD (r : Rwx) : PyData := .tuple [tupN r.1, .int r.2]
def stD (s : Stm) : PyData := .list [.int (s.1 : Int), .int (s.2.1 : Int), .int s.2.2]
def msgsD (ms : List Msg) : PyData := .list (ms.map msgD)
def entsD (es : List Ent) : PyData := .list (es.map entD)
def rowsD (rs : List Rwx) : PyData := .list (rs.map rwD)
def stsD (ss : List Stm) : PyData := .list (ss.map stD)
def lotsD (ls : List (List Nat)) : PyData := .list (ls.map tupN)
def listN (ns : List Nat) : PyData := .list (natsL ns)
/-- the road at a place -/
def rd (rs : List Road) (a : Nat) : Road := rs.getD a (0, 0, 0)
def md (ms : List Msg) (n : Nat) : Msg := ms.getD n ([], 0)
theorem rd_get {rs : List Road} {a : Nat} (h : a < rs.length) : rs[a]? = some (rd rs a) := by
  unfold rd
  rw [List.getD_eq_getElem?_getD, List.getElem?_eq_getElem h]
  rfl
theorem rd_getD {rs : List Road} {a : Nat} (h : a < rs.length) : (rdsL rs)[a]? = some (rdD (rd rs a)) := by
  unfold rdsL
  rw [List.getElem?_map, rd_get h]
  rfl
theorem rd_mem {rs : List Road} {a : Nat} (h : a < rs.length) : rd rs a ∈ rs := List.mem_of_getElem? (rd_get h)
theorem md_get {ms : List Msg} {a : Nat} (h : a < ms.length) : ms[a]? = some (md ms a) := by
  unfold md
  rw [List.getD_eq_getElem?_getD, List.getElem?_eq_getElem h]
  rfl
theorem md_getD {ms : List Msg} {a : Nat} (h : a < ms.length) : (ms.map msgD)[a]? = some (msgD (md ms a)) := by
  rw [List.getElem?_map, md_get h]
  rfl
theorem md_mem {ms : List Msg} {a : Nat} (h : a < ms.length) : md ms a ∈ ms := List.mem_of_getElem? (md_get h)
/-! ### masks -/
theorem tb1 (m v : Nat) : decide (m >>> v &&& 1 = 1) = m.testBit v := by
  rw [Nat.testBit_eq_decide_div_mod_eq, Nat.shiftRight_eq_div_pow, Nat.and_one_is_mod]
theorem tb0 (m v : Nat) : decide (m >>> v &&& 1 = 0) = !m.testBit v := by
  rw [Nat.testBit_eq_decide_div_mod_eq, Nat.shiftRight_eq_div_pow, Nat.and_one_is_mod, Bool.eq_iff_iff]
  simp
def ent (r : Road) (m : Nat) : Bool := m.testBit r.2.1 && !m.testBit r.1
def inflowM (rs : List Road) (m : Nat) : Int := ((rs.filter fun r => ent r m).map fun r => r.2.2).sum
def inflowsM (h : Nat) (rs : List Road) : List Int := (List.range (1 <<< h)).map (inflowM rs)
def entL (r : Road) (l : List Nat) : Bool := decide (r.2.1 ∈ l) && !decide (r.1 ∈ l)
def flowL (rs : List Road) (l : List Nat) : Int := ((rs.filter fun r => entL r l).map fun r => r.2.2).sum
def maskOf (l : List Nat) : Nat := (l.map fun v => 1 <<< v).sum
def lotOf (m : Nat) : List Nat := (List.range (Builtin.Int.intBits (m : Int))).filter fun v => m.testBit v
/-! ### lots in their order -/
def lotNext (h : Nat) (l : List Nat) : List (List Nat) := ((List.range h).filter fun v => decide (l = []) || (match l.getLast? with | some u => decide (u < v) | none => true)).map fun v => l ++ [v]
def lotStep (h : Nat) (p : List (List Nat) × List (List Nat)) : List (List Nat) × List (List Nat) := (p.1 ++ p.2.flatMap (lotNext h), p.2.flatMap (lotNext h))
def lotIter (h : Nat) : Nat → List (List Nat) × List (List Nat)
  | 0 => ([], [[]])
  | n + 1 => lotStep h (lotIter h n)
def lotsL (h : Nat) : List (List Nat) := (lotIter h h).1
/-! ### reaching -/
inductive Reach (es : List (Nat × Nat)) (hs : List Nat) : Nat → Prop
  | base {v : Nat} : v ∈ hs → Reach es hs v
  | step {u v : Nat} : (u, v) ∈ es → Reach es hs u → Reach es hs v
noncomputable def led (es : List (Nat × Nat)) (hs : List Nat) : List Nat := (List.range 6).filter fun v => @decide (Reach es hs v) (Classical.propDecidable _)
def edg (r : Road) : Nat × Nat := (r.1, r.2.1)
def pos (rs : List Road) : List (Nat × Nat) := (rs.filter fun r => decide (0 < r.2.2)).map edg
noncomputable def heardL (rs : List Road) (K : List Nat) : List Nat := led (pos rs) K
def ends (rs : List Road) (row : List Nat) : List Nat := row.map fun a => (rd rs a).2.1
def eds (rs : List Road) (row : List Nat) : List (Nat × Nat) := row.map fun a => edg (rd rs a)
theorem mem_led {es : List (Nat × Nat)} {hs : List Nat} {v : Nat} : v ∈ led es hs ↔ v < 6 ∧ Reach es hs v := by
  unfold led
  rw [List.mem_filter, List.mem_range]
  exact and_congr Iff.rfl (@decide_eq_true_iff _ (Classical.propDecidable _))
theorem led_lt (es : List (Nat × Nat)) (hs : List Nat) : (led es hs).Pairwise (· < ·) := List.pairwise_lt_range.filter _
/-! ### what is right -/
structure NetOk (h : Nat) (rs : List Road) : Prop where
  h1 : 1 ≤ h
  h6 : h ≤ 6
  many : rs.length ≤ 12
  road : ∀ r ∈ rs, r.1 < h ∧ r.2.1 < h ∧ r.1 ≠ r.2.1 ∧ 0 ≤ r.2.2 ∧ r.2.2 ≤ 1000000000
def LotOk (h : Nat) (l : List Nat) : Prop := l ≠ [] ∧ l.Pairwise (· < ·) ∧ ∀ v ∈ l, v < h
def MsgOk (h : Nat) (m : Msg) : Prop := LotOk h m.1 ∧ 1 ≤ m.2 ∧ m.2 ≤ 1000000000000
structure NewsOk (h : Nat) (rs : List Road) (ms : List Msg) : Prop where
  net : NetOk h rs
  few : ms.length ≤ 3
  msg : ∀ m ∈ ms, MsgOk h m
def RowOk (rs : List Road) (row : List Nat) : Prop := row.Pairwise (· < ·) ∧ ∀ a ∈ row, a < rs.length ∧ 0 < (rd rs a).2.2
def LedOk (rs : List Road) (K row : List Nat) : Prop := (ends rs row).Nodup ∧ (∀ v ∈ ends rs row, v ∉ K) ∧ ∀ v ∈ ends rs row, Reach (eds rs row) K v
def ForOk (rs : List Road) (K row : List Nat) : Prop := RowOk rs row ∧ LedOk rs K row ∧ ∀ v ∈ heardL rs K, v ∈ K ∨ v ∈ ends rs row
def sumOf (es : List Ent) (n : Nat) : Int := ((es.filter fun e => decide (e.1 = n)).map fun e => e.2.2).sum
def useOf (rows : List Rwx) (a : Nat) : Int := ((rows.filter fun r => decide (a ∈ r.1)).map fun r => r.2).sum
def Bear (rs : List Road) (rows : List Rwx) : Prop := ∀ a, a < rs.length → useOf rows a ≤ (rd rs a).2.2
def EntOk (ms : List Msg) (e : Ent) : Prop := e.1 < ms.length ∧ 1 ≤ e.2.2
structure PlanOk (rs : List Road) (ms : List Msg) (es : List Ent) : Prop where
  ent : ∀ e ∈ es, EntOk ms e ∧ ForOk rs (md ms e.1).1 e.2.1
  bear : Bear rs (es.map fun e => e.2)
  sums : ∀ n, n < ms.length → sumOf es n = (md ms n).2
structure BegOk (rs : List Road) (ms : List Msg) (B : List Ent) : Prop where
  few : B.length ≤ 6
  ent : ∀ e ∈ B, EntOk ms e ∧ RowOk rs e.2.1 ∧ LedOk rs (md ms e.1).1 e.2.1
  bear : Bear rs (B.map fun e => e.2)
  sums : ∀ n, n < ms.length → sumOf B n ≤ (md ms n).2
def tagged (B : List Ent) (parts : List (List Rwx)) : List Ent := (List.zipWith (fun (e : Ent) rows => rows.map fun r : Rwx => (e.1, r.1, r.2)) B parts).flatten
structure FinOk (rs : List Road) (ms : List Msg) (B : List Ent) (parts : List (List Rwx)) (new : List Ent) : Prop where
  len : parts.length = B.length
  part : ∀ (i : Nat) (e : Ent) (rows : List Rwx), B[i]? = some e → parts[i]? = some rows → (∀ r ∈ rows, 1 ≤ r.2 ∧ ∀ a ∈ e.2.1, a ∈ r.1) ∧ (rows.map fun r => r.2).sum = e.2.2
  plan : PlanOk rs ms (new ++ tagged B parts)
/-- the news as a value -/
noncomputable def newsX (h : Nat) (rs : List Road) (ms : List Msg) : Dx := .news h (rdsL rs) (ms.map msgD) ((ms.map fun m => heardL rs m.1).map tupN)
def netX (h : Nat) (rs : List Road) : Dx := .net h (rdsL rs)
end TB
set_option Elab.async false
set_option linter.all false
set_option autoImplicit false
set_option maxRecDepth 100000
set_option maxHeartbeats 4000000
/-! lists of a body's own, made in other ways; several names at once -/
namespace TB
open PySem PySem.Spec PyProof.Rows L2
section
variable {g : Gb} {ρ ρ' : Rho} {te ta tb tc : TE} {x y z : Dx} {K : PySem.W.Frag} {ts tu : TS} {po : Po}
/-- an expression makes a new list that nothing else holds -/
def EvW (g : Gb) (te : TE) (ρ : Rho) (ds : List PyData) : Prop := ∀ (e : En) (σ : St) (F H : Hp), Ew g e σ F H ρ → ∀ Q : VK, (∀ p vs F' H', Gr g e.lf F H F' H' → OwnAt g e F' H' p vs → H p = none → DqAll F' vs ds → Q (.ref p) H') → te σ H Q
theorem Ew.h0 {e : En} {σ : St} {F H : Hp} (E : Ew g e σ F H ρ) {p : Addr} (hp : H p = none) : e.H0 p = none := by
  cases q : e.H0 p with
  | none => rfl
  | some o =>
    have := E.gr.hh p o (E.wl.T_ne hp) (E.wl.lf_ne hp) q
    rw [hp] at this
    cases this
/-- a new list at p -/
theorem own_new {e : En} {σ : St} {F H F1 H1 : Hp} (E : Ew g e σ F H ρ) (r1 : Gr g e.lf F H F1 H1) {p : Addr} {vs : List V} (hp : H1 p = none) : Gr g e.lf F H F1 (upd H1 p (.lst vs)) ∧ OwnAt g e F1 (upd H1 p (.lst vs)) p vs ∧ H p = none := by
  have h0 : H p = none := by
    cases q : H p with
    | none => rfl
    | some o =>
      have := r1.hh p o (r1.wl.T_ne hp) (r1.wl.lf_ne hp) q
      rw [hp] at this
      cases this
  exact ⟨r1.step E (Gr.newH r1.wl hp), ⟨r1.wl.F_none hp, E.h0 h0, r1.wl.T_ne hp, r1.wl.lf_ne hp, upd_same⟩, h0⟩
theorem ew_nil : EvW g (tLst tNil) ρ [] := fun e σ F H E Q q => ⟨Nat.zero_le _, fun p hp => by
  obtain ⟨a, b, c⟩ := own_new E (Gr.refl E.wl) (vs := []) hp
  exact q p [] F _ a b c .nil⟩
theorem ew_copy {ds : List PyData} (ha : Ev g ta ρ x) (hx : isS x = some ds) : EvW g (tCB (rListS K) (tCons ta tNil)) ρ ds := fun e σ F H E Q q => ha e σ F H E _ fun v F1 H1 y r1 rx p => by
  subst p
  obtain ⟨l, vs, rfl, hl, hq⟩ := rx_seq (K := K) r1.wl rx hx
  refine ⟨l, vs, rfl, hl, fun p hp => ?_⟩
  obtain ⟨a, b, c⟩ := own_new E r1 (vs := vs) hp
  exact q p vs F1 _ a b c hq
theorem ew_cat {ds es : List PyData} (ha : Ev g ta ρ x) (hb : Ev g tb ρ y) (h1 : isL x = some ds) (h2 : isL y = some es) (hz : ds.length + es.length ≤ 1000000) : EvW g (tOp rCat ta tb) ρ (ds ++ es) := fun e σ F H E Q q => ha e σ F H E _ fun v F1 H1 a r1 xa pa => hb e σ F1 H1 (E.grow r1) _ fun w F2 H2 b r2 xb pb => by
  subst pa pb
  have r12 := r1.step E r2
  obtain ⟨l, vs, rfl, hl, hq⟩ := rx_lst r12.wl (xa.mono r2) h1
  obtain ⟨l2, us, rfl, hl2, hq2⟩ := rx_lst r12.wl xb h2
  refine ⟨l, l2, vs, us, rfl, rfl, hl, hl2, ?_, fun p hp => ?_⟩
  · rw [hq.length, hq2.length]
    exact Nat.le_trans hz (by decide)
  · obtain ⟨a, b, c⟩ := own_new E r12 (vs := vs ++ us) hp
    exact q p _ F2 _ a b c (hq.append hq2)
theorem ew_lst {ds : List PyData} {tA : TA} (h : EaD g tA ρ ds) (hl : ds.length ≤ 1000) : EvW g (tLst tA) ρ ds := fun e σ F H E Q q => h e σ F H E _ fun vs F1 H1 xs r1 rx p => by
  subst p
  have hlen := rx.length
  rw [List.length_map] at hlen
  refine ⟨Nat.le_trans (by omega) (by decide : 1000 ≤ sizeLine), fun p hp => ?_⟩
  obtain ⟨a, b, c⟩ := own_new E r1 (vs := vs) hp
  exact q p vs F1 _ a b c rx.dq
/-- x = a new list -/
theorem st_ownW {i : Nat} {ds : List PyData} (h : EvW g te ρ ds) (k : po.nx (ρ.set i (some (.own ds)))) : StP g (tAsg te (gName i)) ρ po := fun e σ F H D E w => h e σ F H E _ fun p vs F1 H1 r o hp q =>
  w.nx _ F1 H1 _ r.ff ((E.grow r).setOwn o q fun j ys _ hj z => by
    obtain ⟨v, hv, l, us, e1, o2, _⟩ := E.bd j _ hj
    rw [e1] at hv
    rw [z] at hv
    cases hv
    have o3 := o2.h
    rw [hp] at o3
    cases o3) k
theorem sq_ownW {i : Nat} {ds : List PyData} (h : EvW g te ρ ds) (k : StP g tu (ρ.set i (some (.own ds))) po) : StP g (tSeq (tAsg te (gName i)) tu) ρ po := st_seq (M := fun r => r = ρ.set i (some (.own ds))) (st_ownW h rfl) fun r e => by rw [e]; exact k
/-! ### several values -/
/-- what a value may be set as: told things, or a new list that no slot holds -/
structure News1 (g : Gb) (e : En) (F H : Hp) (σ : St) (ρ : Rho) (v : V) (x : Dx) : Prop where
  rx : Rx g e F H v x
  own : ∀ ds, x = .own ds → ∀ (j : Nat) (ys : List PyData), ρ[j]? = some (some (.own ys)) → σ[j]? ≠ some (some v)
theorem Ew.setX {e : En} {σ : St} {F H : Hp} {v : V} (E : Ew g e σ F H ρ) {i : Nat} (n : News1 g e F H σ ρ v x) : Ew g e (σ.set i (some v)) F H (ρ.set i (some x)) := by
  cases x with
  | own ds =>
    obtain ⟨l, vs, e1, o, q⟩ := n.rx
    subst e1
    exact E.setOwn o q fun j ys _ hj => n.own ds rfl j ys hj
  | d x => exact E.set n.rx fun _ z => nomatch z
  | feed => exact E.set n.rx fun _ z => nomatch z
  | net h rs => exact E.set n.rx fun _ z => nomatch z
  | news h rs ms hs => exact E.set n.rx fun _ z => nomatch z
/-- a value after another slot was set -/
theorem News1.after {e : En} {σ : St} {F H : Hp} {v v2 : V} {x2 : Dx} {i : Nat} (n : News1 g e F H σ ρ v x) (hd : ∀ ds ds2, x = .own ds → x2 = .own ds2 → v2 ≠ v) (hl : i < σ.length ∨ True) : News1 g e F H (σ.set i (some v2)) (ρ.set i (some x2)) v x := by
  refine ⟨n.rx, fun ds hx j ys hj z => ?_⟩
  by_cases hij : i = j
  · subst hij
    have hi : i < ρ.length := by
      have h3 := (List.getElem?_eq_some_iff.mp hj).1
      rwa [List.length_set] at h3
    rw [List.getElem?_set_self hi] at hj
    have e2 : x2 = .own ys := Option.some.inj (Option.some.inj hj)
    have z2 : (σ.set i (some v2))[i]? = some (some v) := z
    by_cases hs : i < σ.length
    · rw [List.getElem?_set_self hs] at z2
      exact hd ds ys hx e2 (Option.some.inj (Option.some.inj z2))
    · rw [List.getElem?_eq_none (by rw [List.length_set]; omega)] at z2
      cases z2
  · rw [List.getElem?_set_ne hij] at hj z
    exact n.own ds hx j ys hj z
/-- values from the left: told or new lists, the new ones different -/
def EvL (g : Gb) (ta : TA) (ρ : Rho) (xs : List Dx) : Prop := ∀ (e : En) (σ : St) (F H : Hp), Ew g e σ F H ρ → ∀ Q : List V → Hp → Prop, (∀ vs F' H', Gr g e.lf F H F' H' → RxAll g e F' H' vs xs →
  (∀ (i : Nat) ds, xs[i]? = some (.own ds) → ∃ p, vs[i]? = some (.ref p) ∧ H p = none) → (∀ (i j : Nat) ds ds', i ≠ j → xs[i]? = some (.own ds) → xs[j]? = some (.own ds') → vs[i]? ≠ vs[j]?) → Q vs H') → ta σ H Q
theorem el_nil : EvL g tNil ρ [] := fun e σ F H E Q q => q [] F H (Gr.refl E.wl) .nil (fun i ds h => by cases h) (fun i j ds ds' _ h => by cases h)
theorem el_d {tr : TA} {xs : List Dx} (h : Ev g ta ρ x) (hr : EvL g tr ρ xs) (hz : x.fz = true := by rfl) : EvL g (tCons ta tr) ρ (x :: xs) := fun e σ F H E Q q => h e σ F H E _ fun v F1 H1 y r1 rx p => hr e σ F1 H1 (E.grow r1) _ fun vs F2 H2 r2 rxs h1 h2 => by
  subst p
  have nx : ∀ ds, y ≠ .own ds := fun ds z => by rw [z] at hz; cases hz
  refine q (v :: vs) F2 H2 (r1.step E r2) (.cons (rx.mono r2) rxs) (fun i ds hi => ?_) (fun i j ds ds' hij hi hj => ?_)
  · cases i with
    | zero => exact absurd (Option.some.inj hi) (nx ds)
    | succ i =>
      obtain ⟨p, hp, hn⟩ := h1 i ds hi
      refine ⟨p, hp, ?_⟩
      cases q2 : H p with
      | none => rfl
      | some o =>
        have := r1.hh p o (r1.wl.T_ne hn) (r1.wl.lf_ne hn) q2
        rw [hn] at this
        cases this
  · cases i with
    | zero => exact absurd (Option.some.inj hi) (nx ds)
    | succ i =>
      cases j with
      | zero => exact absurd (Option.some.inj hj) (nx ds')
      | succ j => exact h2 i j ds ds' (fun z => hij (by rw [z])) hi hj
theorem el_o {tr : TA} {xs : List Dx} {es : List PyData} (h : EvW g ta ρ es) (hr : EvL g tr ρ xs) : EvL g (tCons ta tr) ρ (.own es :: xs) := fun e σ F H E Q q => h e σ F H E _ fun p us F1 H1 r1 o1 hp q1 => hr e σ F1 H1 (E.grow r1) _ fun vs F2 H2 r2 rxs h1 h2 => by
  have o2 := o1.mono r2
  refine q (.ref p :: vs) F2 H2 (r1.step E r2) (.cons ⟨p, us, rfl, o2, q1.mono r2.ff⟩ rxs) (fun i ds hi => ?_) (fun i j ds ds' hij hi hj => ?_)
  · cases i with
    | zero => exact ⟨p, rfl, hp⟩
    | succ i =>
      obtain ⟨p', hp', hn⟩ := h1 i ds hi
      refine ⟨p', hp', ?_⟩
      cases q2 : H p' with
      | none => rfl
      | some o =>
        have := r1.hh p' o (r1.wl.T_ne hn) (r1.wl.lf_ne hn) q2
        rw [hn] at this
        cases this
  · have key : ∀ (i : Nat) ds, xs[i]? = some (.own ds) → some (V.ref p) ≠ vs[i]? := fun i ds hi z => by
      obtain ⟨p', hp', hn⟩ := h1 i ds hi
      rw [hp'] at z
      cases z
      rw [o1.h] at hn
      cases hn
    cases i with
    | zero =>
      cases j with
      | zero => exact absurd rfl hij
      | succ j => exact key j ds' hj
    | succ i =>
      cases j with
      | zero => exact fun z => key i ds hi z.symm
      | succ j => exact h2 i j ds ds' (fun z => hij (by rw [z])) hi hj
theorem News1.of {e : En} {σ : St} {F H F' H' : Hp} {v : V} (E : Ew g e σ F H ρ) (rx : Rx g e F' H' v x) (h : ∀ ds, x = .own ds → ∃ p, v = .ref p ∧ H p = none) : News1 g e F' H' σ ρ v x := by
  refine ⟨rx, fun ds hx j ys hj z => ?_⟩
  obtain ⟨p, rfl, hp⟩ := h ds hx
  obtain ⟨u, hu, l, us, e1, o2, _⟩ := E.bd j _ hj
  rw [e1] at hu
  rw [z] at hu
  cases hu
  have o3 := o2.h
  rw [hp] at o3
  cases o3
theorem RxAll.get {e : En} {F H : Hp} : ∀ {vs : List V} {xs : List Dx} {i : Nat} {v : V} {x : Dx}, RxAll g e F H vs xs → vs[i]? = some v → xs[i]? = some x → Rx g e F H v x
  | _, _, _, _, _, .nil, h, _ => by cases h
  | _, _, 0, _, _, .cons h _, h1, h2 => by
    cases h1
    cases h2
    exact h
  | _, _, i + 1, _, _, .cons _ t, h1, h2 => RxAll.get (i := i) t h1 h2
/-- two slots set, from the left -/
theorem two_set {e : En} {σ : St} {F H F' H' : Hp} {i j : Nat} {a b : Dx} {v w : V} (E : Ew g e σ F H ρ) (r : Gr g e.lf F H F' H') (rx : RxAll g e F' H' [v, w] [a, b]) (h1 : ∀ (i : Nat) ds, [a, b][i]? = some (.own ds) → ∃ p, [v, w][i]? = some (.ref p) ∧ H p = none)
    (h2 : ∀ (i j : Nat) ds ds', i ≠ j → [a, b][i]? = some (.own ds) → [a, b][j]? = some (.own ds') → [v, w][i]? ≠ [v, w][j]?) : Ew g e ((σ.set i (some v)).set j (some w)) F' H' ((ρ.set i (some a)).set j (some b)) := by
  have n1 : News1 g e F' H' σ ρ v a := News1.of E (rx.get (i := 0) rfl rfl) fun ds hx => by
    obtain ⟨p, hp, hn⟩ := h1 0 ds (by rw [hx]; rfl)
    exact ⟨p, Option.some.inj hp, hn⟩
  have n2 : News1 g e F' H' σ ρ w b := News1.of E (rx.get (i := 1) rfl rfl) fun ds hx => by
    obtain ⟨p, hp, hn⟩ := h1 1 ds (by rw [hx]; rfl)
    exact ⟨p, Option.some.inj hp, hn⟩
  exact ((E.grow r).setX n1).setX (n2.after (fun ds ds2 hx hx2 z => h2 0 1 ds2 ds (by decide) (by rw [hx2]; rfl) (by rw [hx]; rfl) (by rw [z]; rfl)) (.inr trivial))
theorem three_set {e : En} {σ : St} {F H F' H' : Hp} {i j l : Nat} {a b c : Dx} {u v w : V} (E : Ew g e σ F H ρ) (r : Gr g e.lf F H F' H') (rx : RxAll g e F' H' [u, v, w] [a, b, c]) (h1 : ∀ (i : Nat) ds, [a, b, c][i]? = some (.own ds) → ∃ p, [u, v, w][i]? = some (.ref p) ∧ H p = none)
    (h2 : ∀ (i j : Nat) ds ds', i ≠ j → [a, b, c][i]? = some (.own ds) → [a, b, c][j]? = some (.own ds') → [u, v, w][i]? ≠ [u, v, w][j]?) : Ew g e (((σ.set i (some u)).set j (some v)).set l (some w)) F' H' (((ρ.set i (some a)).set j (some b)).set l (some c)) := by
  have n1 : News1 g e F' H' σ ρ u a := News1.of E (rx.get (i := 0) rfl rfl) fun ds hx => by
    obtain ⟨p, hp, hn⟩ := h1 0 ds (by rw [hx]; rfl)
    exact ⟨p, Option.some.inj hp, hn⟩
  have n2 : News1 g e F' H' σ ρ v b := News1.of E (rx.get (i := 1) rfl rfl) fun ds hx => by
    obtain ⟨p, hp, hn⟩ := h1 1 ds (by rw [hx]; rfl)
    exact ⟨p, Option.some.inj hp, hn⟩
  have n3 : News1 g e F' H' σ ρ w c := News1.of E (rx.get (i := 2) rfl rfl) fun ds hx => by
    obtain ⟨p, hp, hn⟩ := h1 2 ds (by rw [hx]; rfl)
    exact ⟨p, Option.some.inj hp, hn⟩
  have m2 : News1 g e F' H' (σ.set i (some u)) (ρ.set i (some a)) v b := n2.after (fun ds ds2 hx hx2 z => h2 0 1 ds2 ds (by decide) (by rw [hx2]; rfl) (by rw [hx]; rfl) (by rw [z]; rfl)) (.inr trivial)
  have m3 : News1 g e F' H' (σ.set i (some u)) (ρ.set i (some a)) w c := n3.after (fun ds ds2 hx hx2 z => h2 0 2 ds2 ds (by decide) (by rw [hx2]; rfl) (by rw [hx]; rfl) (by rw [z]; rfl)) (.inr trivial)
  exact (((E.grow r).setX n1).setX m2).setX (m3.after (fun ds ds2 hx hx2 z => h2 1 2 ds2 ds (by decide) (by rw [hx2]; rfl) (by rw [hx]; rfl) (by rw [z]; rfl)) (.inr trivial))
theorem RxAll.two {e : En} {F H : Hp} {vs : List V} {a b : Dx} (r : RxAll g e F H vs [a, b]) : ∃ v w, vs = [v, w] := by
  cases r with
  | cons h r =>
    cases r with
    | cons h2 r =>
      cases r
      exact ⟨_, _, rfl⟩
theorem RxAll.three {e : En} {F H : Hp} {vs : List V} {a b c : Dx} (r : RxAll g e F H vs [a, b, c]) : ∃ u v w, vs = [u, v, w] := by
  cases r with
  | cons h r =>
    obtain ⟨v, w, rfl⟩ := r.two
    exact ⟨_, v, w, rfl⟩
/-- a, b = .., .. -/
theorem sq_parL {i j : Nat} {ta : TA} {a b : Dx} (h : EvL g ta ρ [a, b]) (k : StP g tu ((ρ.set i (some a)).set j (some b)) po) : StP g (tSeq (tPar i j ta) tu) ρ po :=
  st_seq (M := fun r => r = (ρ.set i (some a)).set j (some b)) (fun e σ F H D E w => h e σ F H E _ fun vs F1 H1 r rx h1 h2 => by
    obtain ⟨v, w', rfl⟩ := rx.two
    exact ⟨v, w', rfl, w.nx _ F1 H1 _ r.ff (two_set E r rx h1 h2) rfl⟩) fun r e => by rw [e]; exact k
theorem sq_par3L {i j l : Nat} {ta : TA} {a b c : Dx} (h : EvL g ta ρ [a, b, c]) (k : StP g tu (((ρ.set i (some a)).set j (some b)).set l (some c)) po) : StP g (tSeq (tPar3 i j l ta) tu) ρ po :=
  st_seq (M := fun r => r = ((ρ.set i (some a)).set j (some b)).set l (some c)) (fun e σ F H D E w => h e σ F H E _ fun vs F1 H1 r rx h1 h2 => by
    obtain ⟨u, v, w', rfl⟩ := rx.three
    exact ⟨u, v, w', rfl, w.nx _ F1 H1 _ r.ff (three_set E r rx h1 h2) rfl⟩) fun r e => by rw [e]; exact k
/-- the same by a tuple -/
theorem sq_tup2 {i j : Nat} {ta : TA} {a b : Dx} (h : EvL g ta ρ [a, b]) (k : StP g tu ((ρ.set i (some a)).set j (some b)) po) : StP g (tSeq (tAsg (tTup ta) (gTup K 2 (gCons (gName i) (gCons (gName j) gNil)))) tu) ρ po :=
  st_seq (M := fun r => r = (ρ.set i (some a)).set j (some b)) (fun e σ F H D E w => h e σ F H E _ fun vs F1 H1 r rx h1 h2 => by
    obtain ⟨v, w', rfl⟩ := rx.two
    refine ⟨by show 2 ≤ sizeLine; decide, fun p hp => ?_⟩
    have r2 : Gr g e.lf F1 H1 F1 (upd H1 p (.tup [v, w'])) := Gr.newH r.wl hp
    refine ⟨p, [v, w'], rfl, SqT.of upd_same, rfl, v, [w'], rfl, w', [], rfl, rfl, ?_⟩
    have rx2 : RxAll g e F1 (upd H1 p (.tup [v, w'])) [v, w'] [a, b] := rx.mono r2
    exact w.nx _ F1 _ _ r.ff (two_set E (r.step E r2) rx2 h1 h2) rfl) fun r e => by rw [e]; exact k
/-! ### x -= e -/
theorem st_augI {i : Nat} {f : Int → Int → Int} {m n : Int} (hi : ρ[i]? = some (some (.d (.int m)))) (h : Ev g te ρ (.d (.int n))) (k : po.nx (ρ.set i (some (.d (.int (f m n)))))) : StP g (tAug i te (ipI f)) ρ po := fun e σ F H D E w => by
  obtain ⟨v, hv, rv⟩ := E.bd i _ hi
  refine ⟨v, hv, h e σ F H E _ fun u F1 H1 x r rx p => ?_⟩
  subst p
  exact ⟨m, n, Dq.int_eq rv, Dq.int_eq rx, w.nx _ F1 H1 _ r.ff ((E.grow r).set (x := .d (.int (f m n))) (rx_d (Dq.int _)) fun _ z => nomatch z) k⟩
theorem sq_augI {i : Nat} {f : Int → Int → Int} {m n : Int} (hi : ρ[i]? = some (some (.d (.int m)))) (h : Ev g te ρ (.d (.int n))) (k : StP g tu (ρ.set i (some (.d (.int (f m n))))) po) : StP g (tSeq (tAug i te (ipI f)) tu) ρ po := st_seq (M := fun r => r = ρ.set i (some (.d (.int (f m n))))) (st_augI hi h rfl) fun r e => by rw [e]; exact k
end
end TB
set_option Elab.async false
set_option linter.all false
set_option autoImplicit false
set_option maxRecDepth 100000
set_option maxHeartbeats 4000000
namespace TB
open PySem PySem.Spec PyProof.Rows L2
def S_is_number : SpD := fun xs P => ∃ (i a b : Int), xs = [.d (.int i), .d (.int a), .d (.int b)] ∧ P (.d (.bool (decide (a ≤ i) && decide (i ≤ b))))
abbrev N_is_number : List Str := ["value", "least", "most"]
abbrev ps_is_number : List Str := ["value", "least", "most"]
theorem sc_is_number : FnScope N_is_number ps_is_number (defScope sis_number) := ⟨rfl, rfl, rfl, by decide +kernel, rfl, by decide +kernel, by decide +kernel⟩
theorem nd_is_number : N_is_number.Nodup := sc_is_number.nd
theorem bd_is_number : BindH "is_number" "is_number" ps_is_number sis_number := fun _ _ _ _ _ _ us hl => match us, hl with | [_, _, _], _ => rfl
theorem ok_is_number {P : Program} {w : World} {mg : Str → Option Value} {base : Heap} {g : Gb} (c : Txt g mg base) : FOk P w g.K mg base 1 "is_number" ps_is_number (spOf g S_is_number) := by
  have tx := txt_tx c
  refine FOk.mk' (h_is_number c) sc_is_number bd_is_number (by intro xs Q h; unfold S_is_number at h; (repeat' (rcases h with ⟨_, h⟩)); subst_vars; rfl) fun cdv A outer s H E hr => ⟨_, (pss_one (ps_ret (pe_and (pe_callB (cIsi g.K) (by rfl) tx.isinstance bt_isinstance (pa_cons (pv 0) (pa_cons (pe_bltn (v := .ty "int") (by rfl) tx.int bt_int rfl) pa_nil))) (pe_and (pe_not (pe_callB (cIsi g.K) (by rfl) tx.isinstance bt_isinstance (pa_cons (pv 0) (pa_cons (pe_bltn (v := .ty "bool") (by rfl) tx.bool bt_bool rfl) pa_nil)))) (pe_one (pe_chain op_le op_le (pv 1) (pv 0) (pv 2))))))), ?_⟩
  rintro xs Q ⟨i, a, b, rfl, hQ⟩
  exact st_ret (ev_andV (ev_isi (ev_var rfl) rfl rfl) fun _ => ev_andV (ev_notV (ev_isi (ev_var rfl) rfl rfl)) fun _ => ev_chainI (f := fun i j => decide (i ≤ j)) (f' := fun i j => decide (i ≤ j)) (ev_var rfl) (ev_var rfl) (ev_var rfl) (fun _ _ => rfl) (fun _ _ => rfl)) hQ
def S_is_count : SpD := fun xs P => ∃ (i : Int), xs = [.d (.int i)] ∧ P (.d (.bool (decide (1 ≤ i))))
abbrev N_is_count : List Str := ["value"]
abbrev ps_is_count : List Str := ["value"]
theorem sc_is_count : FnScope N_is_count ps_is_count (defScope sis_count) := ⟨rfl, rfl, rfl, by decide +kernel, rfl, by decide +kernel, by decide +kernel⟩
theorem nd_is_count : N_is_count.Nodup := sc_is_count.nd
theorem bd_is_count : BindH "is_count" "is_count" ps_is_count sis_count := fun _ _ _ _ _ _ us hl => match us, hl with | [_], _ => rfl
theorem ok_is_count {P : Program} {w : World} {mg : Str → Option Value} {base : Heap} {g : Gb} (c : Txt g mg base) : FOk P w g.K mg base 1 "is_count" ps_is_count (spOf g S_is_count) := by
  have tx := txt_tx c
  refine FOk.mk' (h_is_count c) sc_is_count bd_is_count (by intro xs Q h; unfold S_is_count at h; (repeat' (rcases h with ⟨_, h⟩)); subst_vars; rfl) fun cdv A outer s H E hr => ⟨_, (pss_one (ps_ret (pe_and (pe_callB (cIsi g.K) (by rfl) tx.isinstance bt_isinstance (pa_cons (pv 0) (pa_cons (pe_bltn (v := .ty "int") (by rfl) tx.int bt_int rfl) pa_nil))) (pe_and (pe_not (pe_callB (cIsi g.K) (by rfl) tx.isinstance bt_isinstance (pa_cons (pv 0) (pa_cons (pe_bltn (v := .ty "bool") (by rfl) tx.bool bt_bool rfl) pa_nil)))) (pe_one (pe_cmpR op_ge (pv 0) pe_int (nomark _))))))), ?_⟩
  rintro xs Q ⟨i, rfl, hQ⟩
  exact st_ret (ev_andV (ev_isi (ev_var rfl) rfl rfl) fun _ => ev_andV (ev_notV (ev_isi (ev_var rfl) rfl rfl)) fun _ => ev_ge (ev_var rfl) ev_int) hQ
def S_is_road : SpD := fun xs P => ∃ (r : Road) (h : Nat), xs = [.d (rdD r), .d (.int (h : Int))] ∧ (r.1 < h ∧ r.2.1 < h ∧ r.1 ≠ r.2.1 ∧ 0 ≤ r.2.2 ∧ r.2.2 ≤ 1000000000) ∧ P (.d (.bool true))
abbrev N_is_road : List Str := ["value", "houses"]
abbrev ps_is_road : List Str := ["value", "houses"]
theorem sc_is_road : FnScope N_is_road ps_is_road (defScope sis_road) := ⟨rfl, rfl, rfl, by decide +kernel, rfl, by decide +kernel, by decide +kernel⟩
theorem nd_is_road : N_is_road.Nodup := sc_is_road.nd
theorem bd_is_road : BindH "is_road" "is_road" ps_is_road sis_road := fun _ _ _ _ _ _ us hl => match us, hl with | [_, _], _ => rfl
theorem ok_is_road {P : Program} {w : World} {mg : Str → Option Value} {base : Heap} {g : Gb} (c : Txt g mg base) : FOk P w g.K mg base 3 "is_road" ps_is_road (spOf g S_is_road) := by
  have tx := txt_tx c
  obtain ⟨_, kk_WIDEST⟩ := k_WIDEST c
  refine FOk.mk' (h_is_road c) sc_is_road bd_is_road (by intro xs Q h; unfold S_is_road at h; (repeat' (rcases h with ⟨_, h⟩)); subst_vars; rfl) fun cdv A outer s H E hr => ⟨_, (pss_cons (ps_if (PW.pt (pw_or (pt_not (pt_val (pe_callB (cIsi g.K) (by rfl) tx.isinstance bt_isinstance (pa_cons (pv 0) (pa_cons (pe_bltn (v := .ty "tuple") (by rfl) tx.tuple bt_tuple rfl) pa_nil))))) (pw_or1 (pt_cmpR op_ne (pe_callB (cLen g.K) (by rfl) tx.len bt_len (pa_cons (pv 0) pa_nil)) pe_int (nomark _))))) (pss_one (ps_ret pe_bl)) pss_nil)
    (pss_cons (ps_if (PW.pt (pw_or (pt_not (pt_val (pe_callF (ok_is_number c) (hr.mono (by decide)) (pa_cons (pe_ix (ixT g.K) (pv 0) pe_int (fun _ _ => rfl)) (pa_cons pe_int (pa_cons (pe_op op_sub (pv 1) pe_int) pa_nil)))))) (pw_or1 (pt_not (pt_val (pe_callF (ok_is_number c) (hr.mono (by decide)) (pa_cons (pe_ix (ixT g.K) (pv 0) pe_int (fun _ _ => rfl)) (pa_cons pe_int (pa_cons (pe_op op_sub (pv 1) pe_int) pa_nil))))))))) (pss_one (ps_ret pe_bl)) pss_nil)
    (pss_one (ps_ret (pe_and (pe_cmpR op_ne (pe_ix (ixT g.K) (pv 0) pe_int (fun _ _ => rfl)) (pe_ix (ixT g.K) (pv 0) pe_int (fun _ _ => rfl)) (nomark _)) (pe_one (pe_callF (ok_is_number c) (hr.mono (by decide)) (pa_cons (pe_ix (ixT g.K) (pv 0) pe_int (fun _ _ => rfl)) (pa_cons pe_int (pa_cons (pe_glob (v := .int 1000000000) rfl kk_WIDEST ⟨_, rfl⟩) pa_nil)))))))))), ?_⟩
  rintro xs Q ⟨⟨s, e, w⟩, h, rfl, ⟨h1, h2, h3, h4, h5⟩, hQ⟩
  dsimp only at h1 h2 h3 h4 h5
  have in0 : Ev g (tVar 0) (startR N_is_road [.d (rdD (s, e, w)), .d (.int (h : Int))]) (.d (.tuple [.int (s : Int), .int (e : Int), .int w])) := ev_var rfl
  refine sq_no (eb_or (eb_not (eb_test (ev_isi in0 rfl rfl))) fun _ => eb_test (ev_neN (ev_len in0 rfl) (ev_n 3))) (by simp) (sq_no (eb_or (eb_not (eb_test (ev_call (ea_cons (ev_ixTn in0 (ev_n 0) rfl) (ea_cons ev_int (ea_cons (ev_sub (ev_var rfl) ev_int) ea_nil))) ⟨_, _, _, rfl, rfl⟩))) fun _ => eb_not (eb_test (ev_call (ea_cons (ev_ixTn in0 (ev_n 1) rfl) (ea_cons ev_int (ea_cons (ev_sub (ev_var rfl) ev_int) ea_nil))) ⟨_, _, _, rfl, rfl⟩))) (by simp; omega) ?_)
  refine st_ret ((ev_andV (ev_neN (ev_ixTn in0 (ev_n 0) rfl) (ev_ixTn in0 (ev_n 1) rfl)) fun _ => ev_call (ea_cons (ev_ixTn in0 (ev_n 2) rfl) (ea_cons ev_int (ea_cons ev_k ea_nil))) ⟨_, _, _, rfl, rfl⟩)) ?_
  have : (!decide (s = e) && (decide (0 ≤ w) && decide (w ≤ 1000000000))) = true := by
    simp
    exact ⟨h3, h4, h5⟩
  rw [this]
  exact hQ
end TB
set_option Elab.async false
set_option linter.all false
set_option autoImplicit false
set_option maxRecDepth 100000
set_option maxHeartbeats 4000000
namespace TB
open PySem PySem.Spec PyProof.Rows L2
theorem all_true : ∀ n : Nat, (List.replicate n true).all id = true
  | 0 => rfl
  | n + 1 => by rw [List.replicate_succ, List.all_cons, all_true n]; rfl
/-- a comprehension of tests that all hold -/
theorem map_true {α : Type} {f : α → Bool} {l : List α} (h : ∀ a ∈ l, f a = true) : (l.map fun a => PyData.bool (f a)) = (l.map fun _ => true).map PyData.bool := by
  rw [List.map_map]
  exact List.map_congr_left fun a ha => by rw [h a ha]; rfl
theorem all_of {α : Type} {f : α → Bool} {l : List α} (h : ∀ a ∈ l, f a = true) : ((l.map f).all id) = true := by
  rw [List.all_map]
  exact List.all_eq_true.mpr fun a ha => h a ha
theorem natsL_map (ns : List Nat) : natsL ns = ns.map fun (n : Nat) => PyData.int (n : Int) := rfl
def S_are_numbers : SpD := fun xs P => ∃ (ns : List Nat) (many : Nat), xs = [.d (tupN ns), .d (.int (many : Int))] ∧ ns.Nodup ∧ (∀ n ∈ ns, n < many) ∧ ns.length ≤ 1000 ∧ P (.d (.bool true))
abbrev N_are_numbers : List Str := ["value", "many", "one"]
abbrev ps_are_numbers : List Str := ["value", "many"]
theorem sc_are_numbers : FnScope N_are_numbers ps_are_numbers (defScope sare_numbers) := ⟨rfl, rfl, rfl, by decide +kernel, rfl, by decide +kernel, by decide +kernel⟩
theorem nd_are_numbers : N_are_numbers.Nodup := sc_are_numbers.nd
theorem bd_are_numbers : BindH "are_numbers" "are_numbers" ps_are_numbers sare_numbers := fun _ _ _ _ _ _ us hl => match us, hl with | [_, _], _ => rfl
theorem ok_are_numbers {P : Program} {w : World} {mg : Str → Option Value} {base : Heap} {g : Gb} (c : Txt g mg base) : FOk P w g.K mg base 3 "are_numbers" ps_are_numbers (spOf g S_are_numbers) := by
  have tx := txt_tx c
  refine FOk.mk' (h_are_numbers c) sc_are_numbers bd_are_numbers (by intro xs Q h; unfold S_are_numbers at h; (repeat' (rcases h with ⟨_, h⟩)); subst_vars; rfl) fun cdv A outer s H E hr => ⟨_, (pss_cons (ps_if (PW.pt (pw_or (pt_not (pt_val (pe_callB (cIsi g.K) (by rfl) tx.isinstance bt_isinstance (pa_cons (pv 0) (pa_cons (pe_bltn (v := .ty "tuple") (by rfl) tx.tuple bt_tuple rfl) pa_nil))))) (pw_or1 (pt_not (pt_val (pe_callB (cAll g.K rfl) (by rfl) tx.all bt_all (pa_cons (pe_lc rfl nd_are_numbers (piT g.K (pv 0)) (blkOk_by (own := [("one", 2)]) (N := N_are_numbers) (sc := defScope sare_numbers) (by decide +kernel)) (fun _ _ _ _ _ => (pg_name (i := 2) nd_are_numbers rfl (Or.inl rfl))) (fun _ _ _ _ _ => pts_nil) (fun _ _ _ _ _ => (pe_callF (ok_is_number c) (hr.mono (by decide)) (pa_cons (pv 2) (pa_cons pe_int (pa_cons (pe_op op_sub (pv 1) pe_int) pa_nil)))))) pa_nil))))))) (pss_one (ps_ret pe_bl)) pss_nil)
    (pss_one (ps_ret (pe_cmpR op_eq (pe_lenSetS g.K (by rfl) tx.len (by rfl) tx.set (pv 0)) (pe_callB (cLen g.K) (by rfl) tx.len bt_len (pa_cons (pv 0) pa_nil)) (nomark _))))), ?_⟩
  rintro xs Q ⟨ns, many, rfl, hnd, hlt, hl, hQ⟩
  refine sq_no (eb_or (eb_not (eb_test (ev_isi (ev_var rfl) rfl rfl))) fun _ => eb_not (eb_test (ev_all (ev_lcA (l := ns) (enc := fun (n : Nat) => .int (n : Int)) (f := fun (n : Nat) => .bool (decide ((0 : Int) ≤ n) && decide ((n : Int) ≤ (many : Int) - 1))) (it_tup (ev_var rfl)) (by omega) fun n hn => ⟨_, _, tg_d, by decide, ev_call (ea_cons (ev_var rfl) (ea_cons ev_int (ea_cons (ev_sub (ev_var rfl) ev_int) ea_nil))) ⟨_, _, _, rfl, rfl⟩⟩) (bs := ns.map fun (n : Nat) => (decide ((0 : Int) ≤ n) && decide ((n : Int) ≤ (many : Int) - 1))) (by rw [List.map_map]; rfl)))) ?_ ?_
  · rw [all_of fun n hn => ?_]
    · rfl
    · have := hlt n hn
      simp
      omega
  · refine st_ret (ev_eqN (ev_lenSetN (ev_var rfl) rfl hnd (by omega)) ((ev_len (ev_var rfl) rfl).is (by rw [natsL_length]))) ?_
    rw [decide_eq_true rfl]
    exact hQ
def S_Net___len__ : SpD := fun xs P => ∃ (h : Nat) (rs : List PyData), xs = [.net h rs] ∧ P (.d (.int (h : Int)))
abbrev N_Net___len__ : List Str := ["self"]
abbrev ps_Net___len__ : List Str := ["self"]
theorem sc_Net___len__ : FnScope N_Net___len__ ps_Net___len__ (defScope sNet___len__) := ⟨rfl, rfl, rfl, by decide +kernel, rfl, by decide +kernel, by decide +kernel⟩
theorem nd_Net___len__ : N_Net___len__.Nodup := sc_Net___len__.nd
theorem bd_Net___len__ : BindH "__len__" "Net.__len__" ps_Net___len__ sNet___len__ := fun _ _ _ _ _ _ us hl => match us, hl with | [_], _ => rfl
theorem ok_Net___len__ {P : Program} {w : World} {mg : Str → Option Value} {base : Heap} {g : Gb} (c : Txt g mg base) : MOk P w g.K mg base 1 "Net" "__len__" ps_Net___len__ (spOf g S_Net___len__) := by
  have tx := txt_tx c
  refine MOk.mk' (h_Net___len__ c) (cl_Net c) sc_Net___len__ bd_Net___len__ (by intro xs Q h; unfold S_Net___len__ at h; (repeat' (rcases h with ⟨_, h⟩)); subst_vars; rfl) fun cdv A outer s H E hr => ⟨_, (pss_one (ps_ret (pe_callB (cLen g.K) (by rfl) tx.len bt_len (pa_cons (peFld g.K (pv 0)) pa_nil)))), ?_⟩
  rintro xs Q ⟨h, rs, rfl, hQ⟩
  exact st_ret ((ev_len (ev_places (cl_Net c) (na_Net_places c) (ev_var rfl)) rfl).is (by rw [intsTo_length])) hQ
def S_Net_roads : SpD := fun xs P => ∃ (h : Nat) (rs : List PyData), xs = [.net h rs] ∧ P (.d (.list rs))
abbrev N_Net_roads : List Str := ["self"]
abbrev ps_Net_roads : List Str := ["self"]
theorem sc_Net_roads : FnScope N_Net_roads ps_Net_roads (defScope sNet_roads) := ⟨rfl, rfl, rfl, by decide +kernel, rfl, by decide +kernel, by decide +kernel⟩
theorem nd_Net_roads : N_Net_roads.Nodup := sc_Net_roads.nd
theorem bd_Net_roads : BindH "roads" "Net.roads" ps_Net_roads sNet_roads := fun _ _ _ _ _ _ us hl => match us, hl with | [_], _ => rfl
theorem ok_Net_roads {P : Program} {w : World} {mg : Str → Option Value} {base : Heap} {g : Gb} (c : Txt g mg base) : MOk P w g.K mg base 1 "Net" "roads" ps_Net_roads (spOf g S_Net_roads) := by
  have tx := txt_tx c
  refine MOk.mk' (h_Net_roads c) (cl_Net c) sc_Net_roads bd_Net_roads (by intro xs Q h; unfold S_Net_roads at h; (repeat' (rcases h with ⟨_, h⟩)); subst_vars; rfl) fun cdv A outer s H E hr => ⟨_, (pss_one (ps_ret (pe_callTy (cList g.K) (by rfl) tx.list bt_list (pa_cons (peFld g.K (pv 0)) pa_nil)))), ?_⟩
  rintro xs Q ⟨h, rs, rfl, hQ⟩
  exact st_ret (ev_listS (ev_built (cl_Net c) (na_Net_built c) (ev_var rfl)) rfl) hQ
theorem len_net {g : Gb} {ta : TE} {ρ : Rho} {h : Nat} {rs : List PyData} (ha : Ev g ta ρ (.net h rs)) (hh : h ≤ 6) : Ev g (tCB (rLenO (He.ga g.K "Net") (spOf g S_Net___len__)) (tCons ta tNil)) ρ (.d (.int (h : Int))) := ev_lenO ha (by omega) fun P hP => ⟨h, rs, rfl, hP⟩
theorem net_roads {g : Gb} {ta : TE} {ρ : Rho} {h : Nat} {rs : List PyData} (ha : Ev g ta ρ (.net h rs)) : Ev g (tMeth (He.ga g.K "Net") "roads" (spOf g S_Net_roads) [] E0 ta tNil) ρ (.d (.list rs)) := ev_methNet ha rfl ea_nil ⟨h, rs, rfl, rfl⟩
def S_is_lot : SpD := fun xs P => ∃ (h : Nat) (rs : List PyData) (l : List Nat), xs = [.net h rs, .d (tupN l)] ∧ h ≤ 6 ∧ LotOk h l ∧ l.length ≤ 1000 ∧ P (.d (.bool true))
theorem cut_from (l : List PyData) (n : Nat) : cutD l (some (n : Int)) none = l.drop n := by
  unfold cutD
  rw [HT.sIx_none, HT.sIx_nat]
  by_cases h : n ≤ l.length
  · rw [Nat.min_eq_left h]
    exact List.take_of_length_le (by rw [List.length_drop]; omega)
  · rw [Nat.min_eq_right (by omega), List.drop_length, List.drop_eq_nil_of_le (by omega)]
    simp
theorem cut_to (l : List PyData) (n : Nat) : cutD l none (some (n : Int)) = l.take n := by
  unfold cutD
  rw [HT.sIx_none, HT.sIx_nat, List.drop_zero, Nat.sub_zero]
  by_cases h : n ≤ l.length
  · rw [Nat.min_eq_left h]
  · rw [Nat.min_eq_right (by omega), List.take_length, List.take_of_length_le (by omega)]
theorem cut_mid (l : List PyData) (a b : Nat) : cutD l (some (a : Int)) (some (b : Int)) = (l.drop a).take (b - a) := by
  unfold cutD
  rw [HT.sIx_nat, HT.sIx_nat]
  by_cases h : a ≤ l.length
  · rw [Nat.min_eq_left h]
    by_cases h2 : b ≤ l.length
    · rw [Nat.min_eq_left h2]
    · rw [Nat.min_eq_right (by omega), List.take_of_length_le (by rw [List.length_drop]; omega), List.take_of_length_le (by rw [List.length_drop]; omega)]
  · rw [Nat.min_eq_right (by omega : l.length ≤ a), List.drop_length, List.drop_eq_nil_of_le (by omega)]
    simp
theorem ev_bits {g : Gb} {te : TE} {ρ : Rho} {i : Int} (h : Ev g te ρ (.d (.int i))) : Ev g (tBits te) ρ (.d (.int ((Builtin.Int.intBits i : Nat) : Int))) := fun e σ F H E Q q => h e σ F H E _ fun v F1 H1 x r rx p => by
  subst p
  exact ⟨i, Dq.int_eq rx, q _ F1 H1 _ r (rx_d (Dq.int _)) rfl⟩
theorem pw_adj : ∀ {l : List Nat}, l.Pairwise (· < ·) → ∀ p ∈ List.zip l (l.drop 1), p.1 < p.2
  | [], _, p, h => by cases h
  | [a], _, p, h => by cases h
  | a :: b :: l, h, p, hp => by
    rw [List.drop_one, List.tail_cons, List.zip_cons_cons] at hp
    rcases List.mem_cons.mp hp with e | e
    · rw [e]
      exact (List.pairwise_cons.mp h).1 b List.mem_cons_self
    · exact pw_adj (List.pairwise_cons.mp h).2 p (by rw [List.drop_one, List.tail_cons]; exact e)
theorem natsL_drop (l : List Nat) (n : Nat) : (natsL l).drop n = natsL (l.drop n) := by unfold natsL; rw [List.map_drop]
theorem natsL_take (l : List Nat) (n : Nat) : (natsL l).take n = natsL (l.take n) := by unfold natsL; rw [List.map_take]
theorem zipD_nats : ∀ (a b : List Nat), zipD (natsL a) (natsL b) = (List.zip a b).map fun p => PyData.tuple [.int (p.1 : Int), .int (p.2 : Int)]
  | [], _ => rfl
  | _ :: _, [] => rfl
  | x :: a, y :: b => by
    have := zipD_nats a b
    show PyData.tuple [.int (x : Int), .int (y : Int)] :: zipD (natsL a) (natsL b) = _
    rw [this]
    rfl
abbrev N_is_lot : List Str := ["net", "value", "house", "one", "other"]
abbrev ps_is_lot : List Str := ["net", "value"]
theorem sc_is_lot : FnScope N_is_lot ps_is_lot (defScope sis_lot) := ⟨rfl, rfl, rfl, by decide +kernel, rfl, by decide +kernel, by decide +kernel⟩
theorem nd_is_lot : N_is_lot.Nodup := sc_is_lot.nd
theorem bd_is_lot : BindH "is_lot" "is_lot" ps_is_lot sis_lot := fun _ _ _ _ _ _ us hl => match us, hl with | [_, _], _ => rfl
theorem ok_is_lot {P : Program} {w : World} {mg : Str → Option Value} {base : Heap} {g : Gb} (c : Txt g mg base) : FOk P w g.K mg base 3 "is_lot" ps_is_lot (spOf g S_is_lot) := by
  have tx := txt_tx c
  refine FOk.mk' (h_is_lot c) sc_is_lot bd_is_lot (by intro xs Q h; unfold S_is_lot at h; (repeat' (rcases h with ⟨_, h⟩)); subst_vars; rfl) fun cdv A outer s H E hr => ⟨_, (pss_cons (ps_if (PW.pt (pw_or (pt_not (pt_val (pe_callB (cIsi g.K) (by rfl) tx.isinstance bt_isinstance (pa_cons (pv 1) (pa_cons (pe_bltn (v := .ty "tuple") (by rfl) tx.tuple bt_tuple rfl) pa_nil))))) (pw_or1 (pt_cmpR (opEqD g.K hr.units) (pv 1) (pe_tup pa_nil) (nomark _))))) (pss_one (ps_ret pe_bl)) pss_nil)
    (pss_cons (ps_if (pt_not (pt_val (pe_callB (cAll g.K rfl) (by rfl) tx.all bt_all (pa_cons (pe_lc rfl nd_is_lot (piT g.K (pv 1)) (blkOk_by (own := [("house", 2)]) (N := N_is_lot) (sc := defScope sis_lot) (by decide +kernel)) (fun _ _ _ _ _ => (pg_name (i := 2) nd_is_lot rfl (Or.inl rfl))) (fun _ _ _ _ _ => pts_nil) (fun _ _ _ _ _ => (pe_callF (ok_is_number c) (hr.mono (by decide)) (pa_cons (pv 2) (pa_cons pe_int (pa_cons (pe_op op_sub (pe_callB (cLenO (ok_Net___len__ c) (hr.mono (by decide)) g.K) (by rfl) tx.len bt_len (pa_cons (pv 0) pa_nil)) pe_int) pa_nil)))))) pa_nil)))) (pss_one (ps_ret pe_bl)) pss_nil)
    (pss_one (ps_ret (pe_callB (cAll g.K rfl) (by rfl) tx.all bt_all (pa_cons (pe_lc rfl nd_is_lot (piZipT g.K tx.zip (pa_cons (pv 1) (pa_cons (pe_slice (slT g.K) (pv 1) (po_some pe_int) po_none) pa_nil))) (blkOk_by (own := [("one", 3), ("other", 4)]) (N := N_is_lot) (sc := defScope sis_lot) (by decide +kernel)) (fun _ _ _ _ _ => (pgT g.K 2 (pgs_cons (pg_name (i := 3) nd_is_lot rfl (Or.inl rfl)) (pgs_cons (pg_name (i := 4) nd_is_lot rfl (Or.inl rfl)) pgs_nil)))) (fun _ _ _ _ _ => pts_nil) (fun _ _ _ _ _ => (pe_cmpR op_lt (pv 3) (pv 4) (nomark _)))) pa_nil)))))), ?_⟩
  rintro xs Q ⟨h, rs, l, rfl, hh, ⟨h1, h2, h3⟩, hl, hQ⟩
  refine sq_no (eb_or (eb_not (eb_test (ev_isi (ev_var rfl) rfl rfl))) fun _ => eb_test (ev_eqD (ev_var rfl) (ev_tup ed_nil) (pl_tupN l).sh rfl)) ?_ (sq_no (eb_not (eb_test (ev_all (ev_lcA (l := l) (enc := fun (n : Nat) => .int (n : Int)) (f := fun (n : Nat) => .bool (decide ((0 : Int) ≤ n) && decide ((n : Int) ≤ (h : Int) - 1))) (it_tup (ev_var rfl)) (by omega) fun n hn => ⟨_, _, tg_d, by decide, ev_call (ea_cons (ev_var rfl) (ea_cons ev_int (ea_cons (ev_sub (len_net (ev_var rfl) hh) ev_int) ea_nil))) ⟨_, _, _, rfl, rfl⟩⟩) (bs := l.map fun (n : Nat) => (decide ((0 : Int) ≤ n) && decide ((n : Int) ≤ (h : Int) - 1))) (by rw [List.map_map]; rfl)))) ?_ ?_)
  · have : PyData.eqv (tupN l) (.tuple []) = false := by
      show PyData.eqv (.tuple (natsL l)) (.tuple []) = false
      rw [eqv_nilT]
      exact decide_eq_false fun z => h1 ((natsL_nil_iff l).mp z)
    rw [this]
    rfl
  · rw [all_of fun n hn => ?_]
    · rfl
    · have := h3 n hn
      simp
      omega
  · refine st_ret (ev_all (ev_lcA (l := List.zip l (l.drop 1)) (enc := fun p : Nat × Nat => PyData.tuple [.int (p.1 : Int), .int (p.2 : Int)]) (f := fun p : Nat × Nat => PyData.bool (decide ((p.1 : Int) < p.2))) (?_) ?_ fun p hp => ⟨_, _, tg_tup (tgs_cons tg_d (tgs_cons tg_d tgs_nil)) rfl, by decide, ev_lt (ev_var rfl) (ev_var rfl)⟩) (bs := (List.zip l (l.drop 1)).map fun p => decide ((p.1 : Int) < p.2)) (by rw [List.map_map]; rfl)) ?_
    · rw [← zipD_nats, ← natsL_drop]
      exact it_zipT (ev_var rfl) ((ev_slT (ev_var rfl) (eo_some ev_int) eo_none).is (by rw [show (1 : Int) = ((1 : Nat) : Int) from rfl, cut_from]))
    · rw [List.length_zip]
      omega
    · rw [all_of fun p hp => ?_]
      · exact hQ
      · have := pw_adj h2 p hp
        exact decide_eq_true (by exact_mod_cast this)
def S_lot_of : SpD := fun xs P => ∃ (m : Nat), xs = [.d (.int (m : Int))] ∧ m < 4096 ∧ P (.d (tupN (lotOf m)))
abbrev N_lot_of : List Str := ["mask", "house"]
abbrev ps_lot_of : List Str := ["mask"]
theorem sc_lot_of : FnScope N_lot_of ps_lot_of (defScope slot_of) := ⟨rfl, rfl, rfl, by decide +kernel, rfl, by decide +kernel, by decide +kernel⟩
theorem nd_lot_of : N_lot_of.Nodup := sc_lot_of.nd
theorem bd_lot_of : BindH "lot_of" "lot_of" ps_lot_of slot_of := fun _ _ _ _ _ _ us hl => match us, hl with | [_], _ => rfl
theorem ok_lot_of {P : Program} {w : World} {mg : Str → Option Value} {base : Heap} {g : Gb} (c : Txt g mg base) : FOk P w g.K mg base 1 "lot_of" ps_lot_of (spOf g S_lot_of) := by
  have tx := txt_tx c
  refine FOk.mk' (h_lot_of c) sc_lot_of bd_lot_of (by intro xs Q h; unfold S_lot_of at h; (repeat' (rcases h with ⟨_, h⟩)); subst_vars; rfl) fun cdv A outer s H E hr => ⟨_, (pss_one (ps_ret (pe_callTy (cTup g.K) (by rfl) tx.tuple bt_tuple (pa_cons (pe_lc rfl nd_lot_of (pi_range1 rfl tx.range (pa_cons (pe_bits (pv 0)) pa_nil)) (blkOk_by (own := [("house", 1)]) (N := N_lot_of) (sc := defScope slot_of) (by decide +kernel)) (fun _ _ _ _ _ => (pg_name (i := 1) nd_lot_of rfl (Or.inl rfl))) (fun _ _ _ _ _ => (pts_one (pt_cmpR op_eq (pe_op op_and (pe_op op_shr (pv 0) (pv 1)) pe_int) pe_int (nomark _)))) (fun _ _ _ _ _ => (pv 1))) pa_nil)))), ?_⟩
  rintro xs Q ⟨m, rfl, hm, hQ⟩
  have hb : Builtin.Int.intBits (m : Int) ≤ 12 := PySem.intBits_le_iff.mpr (by simpa using hm)
  refine st_ret (ev_tupL (ev_lc (l := List.range (Builtin.Int.intBits (m : Int))) (enc := fun i : Nat => PyData.int (i : Int)) (f := fun i : Nat => PyData.int (i : Int)) (p := fun i => m.testBit i) (it_rangeN (ev_bits (ev_var rfl)) (by omega)) (by rw [List.length_range]; omega) fun i hi => ⟨_, _, tg_d, by decide,
    (eb_test (ev_eqN (ev_and (ev_shr (ev_var rfl) (ev_var rfl)) (ev_n 1)) (ev_n 1))).is (tb1 m i), fun _ => ev_var rfl⟩) rfl) hQ
def S_mask_of : SpD := fun xs P => ∃ (d : PyData) (l : List Nat), xs = [.d d] ∧ isS (.d d) = some (natsL l) ∧ (∀ v ∈ l, v ≤ 1000) ∧ l.length ≤ 1000 ∧ P (.d (.int (maskOf l : Int)))
abbrev N_mask_of : List Str := ["houses", "house"]
abbrev ps_mask_of : List Str := ["houses"]
theorem sc_mask_of : FnScope N_mask_of ps_mask_of (defScope smask_of) := ⟨rfl, rfl, rfl, by decide +kernel, rfl, by decide +kernel, by decide +kernel⟩
theorem nd_mask_of : N_mask_of.Nodup := sc_mask_of.nd
theorem bd_mask_of : BindH "mask_of" "mask_of" ps_mask_of smask_of := fun _ _ _ _ _ _ us hl => match us, hl with | [_], _ => rfl
theorem ok_mask_of {P : Program} {w : World} {mg : Str → Option Value} {base : Heap} {g : Gb} (c : Txt g mg base) : FOk P w g.K mg base 1 "mask_of" ps_mask_of (spOf g S_mask_of) := by
  have tx := txt_tx c
  refine FOk.mk' (h_mask_of c) sc_mask_of bd_mask_of (by intro xs Q h; unfold S_mask_of at h; (repeat' (rcases h with ⟨_, h⟩)); subst_vars; rfl) fun cdv A outer s H E hr => ⟨_, (pss_one (ps_ret (pe_callB (cSum g.K rfl) (by rfl) tx.sum bt_sum (pa_cons (pe_lc rfl nd_mask_of (piSeq g.K (pv 0)) (blkOk_by (own := [("house", 1)]) (N := N_mask_of) (sc := defScope smask_of) (by decide +kernel)) (fun _ _ _ _ _ => (pg_name (i := 1) nd_mask_of rfl (Or.inl rfl))) (fun _ _ _ _ _ => pts_nil) (fun _ _ _ _ _ => (pe_op op_shl pe_int (pv 1)))) pa_nil)))), ?_⟩
  rintro xs Q ⟨d, l, rfl, hd, hv, hl, hQ⟩
  refine st_ret ((ev_sum (ev_lcA (l := l) (enc := fun (n : Nat) => .int (n : Int)) (f := fun (n : Nat) => .int ((1 <<< n : Nat) : Int)) (it_seq (ev_var rfl) hd) (by omega) fun n hn => ⟨_, _, tg_d, by decide, ev_shl ev_int (ev_var rfl) (by have := hv n hn; omega)⟩) (ns := l.map fun (n : Nat) => ((1 <<< n : Nat) : Int)) (by rw [List.map_map]; rfl))) ?_
  have e : (l.map fun (n : Nat) => ((1 <<< n : Nat) : Int)).sum = (maskOf l : Int) := by
    unfold maskOf
    clear hd hv hl hQ
    induction l with
    | nil => rfl
    | cons a l ih => rw [List.map_cons, List.sum_cons, ih, List.map_cons, List.sum_cons]; exact (Int.natCast_add _ _).symm
  rw [e]
  exact hQ
def S_inflow : SpD := fun xs P => ∃ (h : Nat) (rs : List Road) (l : List Nat), xs = [netX h rs, .d (tupN l)] ∧ rs.length ≤ 1000 ∧ P (.d (.int (flowL rs l)))
abbrev N_inflow : List Str := ["net", "lot", "start", "end", "width"]
abbrev ps_inflow : List Str := ["net", "lot"]
theorem sc_inflow : FnScope N_inflow ps_inflow (defScope sinflow) := ⟨rfl, rfl, rfl, by decide +kernel, rfl, by decide +kernel, by decide +kernel⟩
theorem nd_inflow : N_inflow.Nodup := sc_inflow.nd
theorem bd_inflow : BindH "inflow" "inflow" ps_inflow sinflow := fun _ _ _ _ _ _ us hl => match us, hl with | [_, _], _ => rfl
theorem ok_inflow {P : Program} {w : World} {mg : Str → Option Value} {base : Heap} {g : Gb} (c : Txt g mg base) : FOk P w g.K mg base 2 "inflow" ps_inflow (spOf g S_inflow) := by
  have tx := txt_tx c
  refine FOk.mk' (h_inflow c) sc_inflow bd_inflow (by intro xs Q h; unfold S_inflow at h; (repeat' (rcases h with ⟨_, h⟩)); subst_vars; rfl) fun cdv A outer s H E hr => ⟨_, (pss_one (ps_ret (pe_callB (cSum g.K rfl) (by rfl) tx.sum bt_sum (pa_cons (pe_lc rfl nd_inflow (piL g.K (peMeth0 g.K (ok_Net_roads c) (hr.mono (by decide)) (pv 0))) (blkOk_by (own := [("start", 2), ("end", 3), ("width", 4)]) (N := N_inflow) (sc := defScope sinflow) (by decide +kernel)) (fun _ _ _ _ _ => (pgT g.K 3 (pgs_cons (pg_name (i := 2) nd_inflow rfl (Or.inl rfl)) (pgs_cons (pg_name (i := 3) nd_inflow rfl (Or.inl rfl)) (pgs_cons (pg_name (i := 4) nd_inflow rfl (Or.inl rfl)) pgs_nil))))) (fun _ _ _ _ _ => (pts_one (PW.pt (pw_and (pt_cmpR (opIn g.K) (pv 3) (pv 1) (by rfl)) (pw_and1 (pt_cmpR (opNIn g.K) (pv 2) (pv 1) (by rfl))))))) (fun _ _ _ _ _ => (pv 4))) pa_nil)))), ?_⟩
  rintro xs Q ⟨h, rs, l, rfl, hl, hQ⟩
  refine st_ret (ev_sum (ev_lc (l := rs) (enc := rdD) (f := fun r : Road => PyData.int r.2.2) (p := fun r => entL r l) (it_list (net_roads (ev_var rfl))) (by omega) fun r hr => ⟨_, _, tg_tup (tgs_cons tg_d (tgs_cons tg_d (tgs_cons tg_d tgs_nil))) rfl, by decide,
      eb_and (eb_test (ev_inN (ev_var rfl) (ev_var rfl) rfl)) (fun _ => eb_test (ev_ninN (ev_var rfl) (ev_var rfl) rfl)), fun _ => ev_var rfl⟩) (ns := (rs.filter fun r => entL r l).map fun r : Road => r.2.2) (by rw [List.map_map]; rfl)) hQ
def S_inflows : SpD := fun xs P => ∃ (h : Nat) (rs : List Road), xs = [.d (.int (h : Int)), .d (rdsD rs)] ∧ h ≤ 6 ∧ rs.length ≤ 1000 ∧ P (.d (intL (inflowsM h rs)))
abbrev N_inflows : List Str := ["houses", "roads", "found", "mask", "rows", "start", "end", "width"]
abbrev ps_inflows : List Str := ["houses", "roads"]
theorem sc_inflows : FnScope N_inflows ps_inflows (defScope sinflows) := ⟨rfl, rfl, rfl, by decide +kernel, rfl, by decide +kernel, by decide +kernel⟩
theorem nd_inflows : N_inflows.Nodup := sc_inflows.nd
theorem bd_inflows : BindH "inflows" "inflows" ps_inflows sinflows := fun _ _ _ _ _ _ us hl => match us, hl with | [_, _], _ => rfl
theorem ok_inflows {P : Program} {w : World} {mg : Str → Option Value} {base : Heap} {g : Gb} (c : Txt g mg base) : FOk P w g.K mg base 1 "inflows" ps_inflows (spOf g S_inflows) := by
  have tx := txt_tx c
  refine FOk.mk' (h_inflows c) sc_inflows bd_inflows (by intro xs Q h; unfold S_inflows at h; (repeat' (rcases h with ⟨_, h⟩)); subst_vars; rfl) fun cdv A outer s H E hr => ⟨_, (pss_cons (ps_set (i := 2) nd_inflows rfl (Or.inl rfl) (pe_lst pa_nil))
    (pss_cons (ps_for PassesOwn.never rfl (pi_range1 rfl tx.range (pa_cons (pe_op op_shl pe_int (pv 0)) pa_nil)) (pg_name (i := 3) nd_inflows rfl (Or.inr rfl)) (pss_cons (ps_setLc (i := 4) rfl nd_inflows rfl rfl (sw_true rfl rfl rfl (by decide +kernel)) (piL g.K (pv 1)) (blkOk_by (own := [("start", 5), ("end", 6), ("width", 7)]) (N := N_inflows) (sc := defScope sinflows) (by decide +kernel)) (fun _ _ _ _ _ => (pgT g.K 3 (pgs_cons (pg_name (i := 5) nd_inflows rfl (Or.inl rfl)) (pgs_cons (pg_name (i := 6) nd_inflows rfl (Or.inl rfl)) (pgs_cons (pg_name (i := 7) nd_inflows rfl (Or.inl rfl)) pgs_nil))))) (fun _ _ _ _ _ => (pts_one (PW.pt (pw_and (pt_cmpR op_eq (pe_op op_and (pe_op op_shr (pv 3) (pv 6)) pe_int) pe_int (nomark _)) (pw_and1 (pt_cmpR op_eq (pe_op op_and (pe_op op_shr (pv 3) (pv 5)) pe_int) pe_int (nomark _))))))) (fun _ _ _ _ _ => (pv 7)))
    (pss_one (ps_expr (pe_bm PySem.F.plainAttrs_list PySem.F.slot_list_append PySem.F.type_list_append mt_append (pv 2) (pa_cons (pe_callB (cSum g.K rfl) (by rfl) tx.sum bt_sum (pa_cons (pv 4) pa_nil)) pa_nil))))))
    (pss_one (ps_ret (pv 2))))), ?_⟩
  rintro xs Q ⟨h, rs, rfl, hh, hl, hQ⟩
  have hp : 1 <<< h ≤ 64 := by
    rw [Nat.one_shiftLeft]
    exact Nat.pow_le_pow_right (by decide) hh
  refine sq_own (st_seq (M := fun ρ => ∃ a b, ρ = [some (.d (.int (h : Int))), some (.d (rdsD rs)), some (.own ((inflowsM h rs).map .int)), a, b, none, none, none]) (st_for (it_rangeN (ev_shl ev_int (ev_var rfl) (by omega)) (by omega))
    (fun _ i ρ => ∃ acc a b, acc = (List.range i).map (fun m => PyData.int (inflowM rs m)) ∧ ρ = [some (.d (.int (h : Int))), some (.d (rdsD rs)), some (.own acc), a, b, none, none, none]) ?_ ?_ ?_) ?_)
  · rintro ds rfl
    exact ⟨_, none, none, rfl, rfl⟩
  · rintro ds i d ρ rfl hd ⟨acc, a, b, ha, rfl⟩
    obtain ⟨rfl, hi⟩ := intsTo_get hd
    refine ⟨_, _, tg_d, sq_set (ev_lc (l := rs) (enc := rdD) (p := fun r => ent r i) (f := fun r : Road => PyData.int r.2.2) (it_list (ev_var rfl)) (by omega) fun r hr => ⟨_, _, tg_tup (tgs_cons tg_d (tgs_cons tg_d (tgs_cons tg_d tgs_nil))) rfl, by decide,
      (eb_and (eb_test (ev_eqN (ev_and (ev_shr (ev_var rfl) (ev_var rfl)) (ev_n 1)) (ev_n 1))) (fun _ => eb_test (ev_eqN (ev_and (ev_shr (ev_var rfl) (ev_var rfl)) (ev_n 1)) (ev_n 0)))).is (by rw [tb1, tb0]; rfl), fun _ => ev_var rfl⟩)
      (st_app rfl (ev_sum (ns := (rs.filter fun r => ent r i).map fun r : Road => r.2.2) (ev_var rfl) (by rw [List.map_map]; rfl)) (by rw [ha, List.length_map, List.length_range]; omega) ⟨_, _, _, ?_, rfl⟩)⟩
    rw [ha, List.range_succ, List.map_append]
    rfl
  · rintro ds ρ rfl ⟨acc, a, b, ha, rfl⟩
    refine ⟨a, b, ?_⟩
    rw [ha, intsTo_length]
    unfold inflowsM
    rw [List.map_map]
    rfl
  · rintro ρ ⟨a, b, rfl⟩
    exact st_retOwn rfl hQ
end TB
set_option Elab.async false
set_option linter.all false
set_option autoImplicit false
set_option maxRecDepth 100000
set_option maxHeartbeats 4000000
namespace TB
open PySem PySem.Spec PyProof.Rows L2
theorem lt_of_le_nodup : ∀ {l : List Nat}, l.Pairwise (· ≤ ·) → l.Nodup → l.Pairwise (· < ·)
  | [], _, _ => .nil
  | a :: l, h, n => by
    obtain ⟨h1, h2⟩ := List.pairwise_cons.mp h
    obtain ⟨n1, n2⟩ := List.nodup_cons.mp n
    refine List.pairwise_cons.mpr ⟨fun b hb => ?_, lt_of_le_nodup h2 n2⟩
    have := h1 b hb
    have : a ≠ b := fun z => n1 (by rw [z]; exact hb)
    omega
theorem srtN_lt {l : List Nat} (h : l.Nodup) : (srtN l).Pairwise (· < ·) := lt_of_le_nodup (srtN_sorted l) ((srtN_perm l).nodup_iff.mpr h)
theorem srtN_is {l L : List Nat} (h : l.Nodup) (hL : L.Pairwise (· < ·)) (e : ∀ k, k ∈ l ↔ k ∈ L) : srtN l = L := lt_sortedN_eq (srtN_lt h) hL fun k => by rw [(srtN_perm l).mem_iff]; exact e k
theorem nodup_leN {k : Nat} {l : List Nat} (nd : l.Nodup) (h : ∀ i ∈ l, i < k) : l.length ≤ k := by
  have := nodup_le k (l.map fun (m : Nat) => (m : Int)) (List.Pairwise.map _ (fun a b h z => h (Int.ofNat.inj z)) nd) fun i hi => by
    obtain ⟨m, hm, rfl⟩ := List.mem_map.mp hi
    have := h m hm
    omega
  rwa [List.length_map] at this
theorem reach_sub {es : List (Nat × Nat)} {hs S : List Nat} (h0 : ∀ v ∈ hs, v ∈ S) (h1 : ∀ u v, (u, v) ∈ es → u ∈ S → v ∈ S) {v : Nat} (r : Reach es hs v) : v ∈ S := by
  induction r with
  | base h => exact h0 _ h
  | step h _ ih => exact h1 _ _ h ih
def S_led_to : SpD := fun xs P => ∃ (rs : List Road) (dn : PyData) (ns : List Nat) (dh : PyData) (hs : List Nat), xs = [.d (rdsD rs), .d dn, .d dh] ∧ isS (.d dn) = some (natsL ns) ∧ isS (.d dh) = some (natsL hs) ∧ (∀ a ∈ ns, a < rs.length) ∧ (∀ r ∈ rs, r.2.1 < 6) ∧ hs.Nodup ∧ (∀ v ∈ hs, v < 6) ∧ ns.length ≤ 1000 ∧ P (.d (listN (led (eds rs ns) hs)))
abbrev N_led_to : List Str := ["roads", "numbers", "houses", "found", "is_new", "more", "at"]
abbrev ps_led_to : List Str := ["roads", "numbers", "houses"]
theorem sc_led_to : FnScope N_led_to ps_led_to (defScope sled_to) := ⟨rfl, rfl, rfl, by decide +kernel, rfl, by decide +kernel, by decide +kernel⟩
theorem nd_led_to : N_led_to.Nodup := sc_led_to.nd
theorem bd_led_to : BindH "led_to" "led_to" ps_led_to sled_to := fun _ _ _ _ _ _ us hl => match us, hl with | [_, _, _], _ => rfl
theorem ok_led_to {P : Program} {w : World} {mg : Str → Option Value} {base : Heap} {g : Gb} (c : Txt g mg base) : FOk P w g.K mg base 1 "led_to" ps_led_to (spOf g S_led_to) := by
  have tx := txt_tx c
  refine FOk.mk' (h_led_to c) sc_led_to bd_led_to (by intro xs Q h; unfold S_led_to at h; (repeat' (rcases h with ⟨_, h⟩)); subst_vars; rfl) fun cdv A outer s H E hr => ⟨_, (pss_cons (ps_asg (pe_tup (pa_cons (pe_callTy (cList g.K) (by rfl) tx.list bt_list (pa_cons (pv 2) pa_nil)) (pa_cons pe_bl pa_nil))) (pgT g.K 2 (pgs_cons (pg_name (i := 3) nd_led_to rfl (Or.inr rfl)) (pgs_cons (pg_name (i := 4) nd_led_to rfl (Or.inl rfl)) pgs_nil))))
    (pss_cons (ps_while PassesOwn.never (pt_val (pv 4)) (pss_cons (ps_setLc (i := 5) rfl nd_led_to rfl rfl (sw_true rfl rfl rfl (by decide +kernel)) (piSeq g.K (pv 1)) (blkOk_by (own := [("at", 6)]) (N := N_led_to) (sc := defScope sled_to) (by decide +kernel)) (fun _ _ _ _ _ => (pg_name (i := 6) nd_led_to rfl (Or.inl rfl))) (fun _ _ _ _ _ => (pts_one (PW.pt (pw_and (pt_cmpR (opIn g.K) (pe_ix (ixT g.K) (pe_ix (ixL g.K) (pv 0) (pv 6) (fun _ _ => rfl)) pe_int (fun _ _ => rfl)) (pv 3) (by rfl)) (pw_and1 (pt_cmpR (opNIn g.K) (pe_ix (ixT g.K) (pe_ix (ixL g.K) (pv 0) (pv 6) (fun _ _ => rfl)) pe_int (fun _ _ => rfl)) (pv 3) (by rfl))))))) (fun _ _ _ _ _ => (pe_ix (ixT g.K) (pe_ix (ixL g.K) (pv 0) (pv 6) (fun _ _ => rfl)) pe_int (fun _ _ => rfl))))
    (pss_cons (ps_set (i := 4) nd_led_to rfl (Or.inl rfl) (pe_cmpR (opNeD g.K hr.units) (pv 5) (pe_lst pa_nil) (nomark _)))
    (pss_one (ps_set (i := 3) nd_led_to rfl (Or.inr rfl) (pe_op op_cat (pv 3) (pe_slice (slL g.K) (pv 5) po_none (po_some pe_int))))))))
    (pss_one (ps_ret (pe_callB (cSortedS g.K) (by rfl) tx.sorted bt_sorted (pa_cons (pv 3) pa_nil)))))), ?_⟩
  rintro xs Q ⟨rs, dn, ns, dh, hs, rfl, hn, hh, hlt, h6, hnd, hs6, hl, hQ⟩
  have hsl : hs.length ≤ 6 := nodup_leN hnd hs6
  have me : ∀ {u v : Nat}, (u, v) ∈ eds rs ns ↔ ∃ a ∈ ns, (rd rs a).1 = u ∧ (rd rs a).2.1 = v := by
    intro u v
    unfold eds edg
    rw [List.mem_map]
    constructor
    · rintro ⟨a, ha, e⟩
      cases e
      exact ⟨a, ha, rfl, rfl⟩
    · rintro ⟨a, ha, rfl, rfl⟩
      exact ⟨a, ha, rfl⟩
  refine sq_asg (P := fun y => y = .d (.tuple [listN hs, .bool true])) (ev_tup (ds := [listN hs, .bool true]) (ea_cons (ev_listS (ev_var rfl) hh) (ea_cons ev_bl ea_nil)) (by simp)) ?_
  rintro y rfl
  refine ⟨_, _, tg_tup (tgs_cons tg_d (tgs_cons tg_d tgs_nil)) rfl, ?_⟩
  refine st_seq (M := fun ρ => ∃ x y, ρ = [some (.d (rdsD rs)), some (.d dn), some (.d dh), some (.d (listN (led (eds rs ns) hs))), some (.d (.bool false)), x, y] ∨ ∃ found, found.Nodup ∧ (∀ k, k ∈ found ↔ k ∈ led (eds rs ns) hs) ∧ ρ = [some (.d (rdsD rs)), some (.d dn), some (.d dh), some (.d (listN found)), some (.d (.bool false)), x, y]) ?_ ?_
  · refine st_while (fun m ρ => ∃ (found : List Nat) (b : Bool) (x y : Option Dx), ρ = [some (.d (rdsD rs)), some (.d dn), some (.d dh), some (.d (listN found)), some (.d (.bool b)), x, y] ∧ found.Nodup ∧ (∀ v ∈ found, v < 6 ∧ Reach (eds rs ns) hs v) ∧ (∀ v ∈ hs, v ∈ found) ∧
      (b = false → ∀ u v, (u, v) ∈ eds rs ns → u ∈ found → v ∈ found) ∧ m = (if b = true then 1 else 0) + 2 * (6 - found.length)) _ ⟨hs, true, none, none, rfl, hnd, fun v hv => ⟨hs6 v hv, .base hv⟩, fun v hv => hv, (fun z => nomatch z), rfl⟩ ?_
    rintro m ρ ⟨found, b, x, y, rfl, nd, fr, fh, fc, rfl⟩
    have fl : found.length ≤ 6 := nodup_leN nd fun v hv => (fr v hv).1
    refine ⟨_, eb_test (ev_var rfl), fun e => ?_, fun e => ?_⟩
    · subst e
      refine sq_set (ev_lc (l := ns) (enc := fun a : Nat => PyData.int (a : Int)) (p := fun a => decide ((rd rs a).1 ∈ found) && !decide ((rd rs a).2.1 ∈ found)) (f := fun a : Nat => PyData.int ((rd rs a).2.1 : Int)) (it_seq (ev_var rfl) hn) (by omega) fun a ha => ⟨_, _, tg_d, by decide,
        eb_and (eb_test (ev_inN (ev_ixTn (ev_ixLn (ev_var rfl) (ev_var rfl) rfl (rd_getD (hlt a ha))) (ev_n 0) rfl) (ev_var rfl) rfl)) (fun _ => eb_test (ev_ninN (ev_ixTn (ev_ixLn (ev_var rfl) (ev_var rfl) rfl (rd_getD (hlt a ha))) (ev_n 1) rfl) (ev_var rfl) rfl)),
        fun _ => ev_ixTn (ev_ixLn (ev_var rfl) (ev_var rfl) rfl (rd_getD (hlt a ha))) (ev_n 1) rfl⟩) ?_
      have em : (ns.filter fun a => decide ((rd rs a).1 ∈ found) && !decide ((rd rs a).2.1 ∈ found)).map (fun a : Nat => PyData.int ((rd rs a).2.1 : Int)) = natsL ((ns.filter fun a => decide ((rd rs a).1 ∈ found) && !decide ((rd rs a).2.1 ∈ found)).map fun a => (rd rs a).2.1) := by
        unfold natsL
        rw [List.map_map]
        rfl
      rw [em]
      have hmem : ∀ v, v ∈ ((ns.filter fun a => decide ((rd rs a).1 ∈ found) && !decide ((rd rs a).2.1 ∈ found)).map fun a => (rd rs a).2.1) → v < 6 ∧ Reach (eds rs ns) hs v ∧ v ∉ found := fun v hv => by
        obtain ⟨a, ha, rfl⟩ := List.mem_map.mp hv
        obtain ⟨h1, h2⟩ := List.mem_filter.mp ha
        simp only [Bool.and_eq_true, decide_eq_true_eq, Bool.not_eq_true', decide_eq_false_iff_not] at h2
        exact ⟨h6 _ (rd_mem (hlt a h1)), .step (me.mpr ⟨a, h1, rfl, rfl⟩) (fr _ h2.1).2, h2.2⟩
      have hno : ((ns.filter fun a => decide ((rd rs a).1 ∈ found) && !decide ((rd rs a).2.1 ∈ found)).map fun a => (rd rs a).2.1) = [] → ∀ u v, (u, v) ∈ eds rs ns → u ∈ found → v ∈ found := fun e u v huv hu => by
        obtain ⟨a, ha, rfl, rfl⟩ := me.mp huv
        by_cases hv : (rd rs a).2.1 ∈ found
        · exact hv
        · exfalso
          have : (rd rs a).2.1 ∈ ((ns.filter fun a => decide ((rd rs a).1 ∈ found) && !decide ((rd rs a).2.1 ∈ found)).map fun a => (rd rs a).2.1) := List.mem_map.mpr ⟨a, List.mem_filter.mpr ⟨ha, by simp [hu, hv]⟩, rfl⟩
          rw [e] at this
          cases this
      generalize ((ns.filter fun a => decide ((rd rs a).1 ∈ found) && !decide ((rd rs a).2.1 ∈ found)).map fun a => (rd rs a).2.1) = more at hmem hno ⊢
      refine sq_set (ev_neD (ev_var rfl) (ev_lst ed_nil) (pl_list (n := 0) (pl_nats more)).sh rfl) (st_set (ev_cat (ev_var rfl) (ev_slL (ev_var rfl) rfl eo_none (eo_some ev_int)) rfl rfl ?_) rfl ?_)
      · rw [show (1 : Int) = ((1 : Nat) : Int) from rfl, cut_to, natsL_take, natsL_length, natsL_length, List.length_take]
        omega
      · rw [show (1 : Int) = ((1 : Nat) : Int) from rfl, cut_to, natsL_take, ← natsL_append]
        have eb : (!PyData.eqv (.list (natsL more)) (.list [])) = !decide (more = []) := by
          rw [eqv_nil]
          congr 1
          simp only [natsL_nil_iff]
        have nd2 : (found ++ more.take 1).Nodup := by
          rw [List.nodup_append]
          refine ⟨nd, ?_, fun u hu v hv e => ?_⟩
          · cases more with
            | nil => exact .nil
            | cons a l => exact List.nodup_cons.mpr ⟨by simp, .nil⟩
          · subst e
            exact (hmem _ (List.mem_of_mem_take hv)).2.2 hu
        have fr2 : ∀ v ∈ found ++ more.take 1, v < 6 ∧ Reach (eds rs ns) hs v := fun v hv => by
          rcases List.mem_append.mp hv with e | e
          · exact fr v e
          · have := hmem v (List.mem_of_mem_take e)
            exact ⟨this.1, this.2.1⟩
        have l2 := nodup_leN nd2 fun v hv => (fr2 v hv).1
        refine ⟨_, ?_, found ++ more.take 1, _, _, _, rfl, nd2, fr2, fun v hv => List.mem_append_left _ (fh v hv), fun z u v huv hu => ?_, rfl⟩
        · rw [eb]
          rw [List.length_append, List.length_take] at l2 ⊢
          cases more with
          | nil => simp
          | cons a l => simp at l2 ⊢; omega
        · rw [eb] at z
          have e : more = [] := by simpa using z
          subst e
          rw [List.take_nil, List.append_nil] at hu ⊢
          exact hno rfl u v huv hu
    · subst e
      refine ⟨x, y, .inr ⟨found, nd, fun k => ?_, rfl⟩⟩
      rw [mem_led]
      exact ⟨fun h => fr k h, fun h => reach_sub fh (fc rfl) h.2⟩
  · rintro ρ ⟨x, y, rfl | ⟨found, nd, hk, rfl⟩⟩
    · refine st_ret (ev_sortedN (ev_var rfl) rfl) ?_
      rw [srtN_is (l := led (eds rs ns) hs) (List.Pairwise.imp (fun h => Nat.ne_of_lt h) (led_lt _ _)) (led_lt _ _) fun k => Iff.rfl]
      exact hQ
    · refine st_ret (ev_sortedN (ev_var rfl) rfl) ?_
      rw [srtN_is nd (led_lt _ _) hk]
      exact hQ
end TB
set_option Elab.async false
set_option linter.all false
set_option autoImplicit false
set_option maxRecDepth 100000
set_option maxHeartbeats 4000000
namespace TB
open PySem PySem.Spec PyProof.Rows L2
theorem enumD_map {α : Type} (l : List α) (enc : α → PyData) (dflt : α) : enumD (l.map enc) = (List.range l.length).map fun (i : Nat) => PyData.tuple [.int (i : Int), enc (l.getD i dflt)] := by
  apply List.ext_getElem?
  intro i
  rw [enumD_get, List.getElem?_map, List.getElem?_map]
  by_cases h : i < l.length
  · rw [List.getElem?_range h, List.getElem?_eq_getElem h, Option.map_some, Option.map_some, Option.map_some, List.getD_eq_getElem?_getD, List.getElem?_eq_getElem h]
    rfl
  · rw [List.getElem?_eq_none (by omega), List.getElem?_eq_none (by rw [List.length_range]; omega)]
    rfl
theorem it_enumR {g : Gb} {te : TE} {ρ : Rho} {K : PySem.W.Frag} {α : Type} {l : List α} {enc : α → PyData} (dflt : α) (h : Ev g te ρ (.d (.list (l.map enc)))) : ItP g (iEnum K (tCons te tNil)) ρ (fun y => y = (List.range l.length).map fun (i : Nat) => PyData.tuple [.int (i : Int), enc (l.getD i dflt)]) := by
  rw [← enumD_map]
  exact it_enum h
theorem led_congr {es es' : List (Nat × Nat)} {hs hs' : List Nat} (h : ∀ e, e ∈ es ↔ e ∈ es') (h2 : ∀ v, v ∈ hs ↔ v ∈ hs') : led es hs = led es' hs' := by
  have key : ∀ {a b : List (Nat × Nat)} {c d : List Nat}, (∀ e, e ∈ a → e ∈ b) → (∀ v, v ∈ c → v ∈ d) → ∀ v, Reach a c v → Reach b d v := fun h h2 v r => by
    induction r with
    | base x => exact .base (h2 _ x)
    | step x _ ih => exact .step (h _ x) ih
  exact lt_sortedN_eq (led_lt _ _) (led_lt _ _) fun v => by
    rw [mem_led, mem_led]
    exact and_congr Iff.rfl ⟨key (fun e => (h e).mp) (fun v => (h2 v).mp) v, key (fun e => (h e).mpr) (fun v => (h2 v).mpr) v⟩
theorem range_rd (rs : List Road) : (List.range rs.length).map (rd rs) = rs := by
  apply List.ext_getElem?
  intro i
  rw [List.getElem?_map]
  by_cases h : i < rs.length
  · rw [List.getElem?_range h, Option.map_some, rd_get h]
  · rw [List.getElem?_eq_none (by omega : rs.length ≤ i), List.getElem?_eq_none (by rw [List.length_range]; omega)]
    rfl
theorem range_md (ms : List Msg) : (List.range ms.length).map (md ms) = ms := by
  apply List.ext_getElem?
  intro i
  rw [List.getElem?_map]
  by_cases h : i < ms.length
  · rw [List.getElem?_range h, Option.map_some, md_get h]
  · rw [List.getElem?_eq_none (by omega : ms.length ≤ i), List.getElem?_eq_none (by rw [List.length_range]; omega)]
    rfl
theorem NetOk.r6 {h : Nat} {rs : List Road} (n : NetOk h rs) : ∀ r ∈ rs, r.2.1 < 6 := fun r hr => by
  have := (n.road r hr).2.1
  have := n.h6
  omega
def S_reached : SpD := fun xs P => ∃ (h : Nat) (rs : List Road) (l : List Nat), xs = [netX h rs, .d (tupN l)] ∧ (∀ r ∈ rs, r.2.1 < 6) ∧ rs.length ≤ 12 ∧ l.Nodup ∧ (∀ v ∈ l, v < 6) ∧ P (.d (tupN (heardL rs l)))
abbrev N_reached : List Str := ["net", "lot", "roads", "at", "road"]
abbrev ps_reached : List Str := ["net", "lot"]
theorem sc_reached : FnScope N_reached ps_reached (defScope sreached) := ⟨rfl, rfl, rfl, by decide +kernel, rfl, by decide +kernel, by decide +kernel⟩
theorem nd_reached : N_reached.Nodup := sc_reached.nd
theorem bd_reached : BindH "reached" "reached" ps_reached sreached := fun _ _ _ _ _ _ us hl => match us, hl with | [_, _], _ => rfl
theorem ok_reached {P : Program} {w : World} {mg : Str → Option Value} {base : Heap} {g : Gb} (c : Txt g mg base) : FOk P w g.K mg base 2 "reached" ps_reached (spOf g S_reached) := by
  have tx := txt_tx c
  refine FOk.mk' (h_reached c) sc_reached bd_reached (by intro xs Q h; unfold S_reached at h; (repeat' (rcases h with ⟨_, h⟩)); subst_vars; rfl) fun cdv A outer s H E hr => ⟨_, (pss_cons (ps_set (i := 2) nd_reached rfl (Or.inl rfl) (peMeth0 g.K (ok_Net_roads c) (hr.mono (by decide)) (pv 0)))
    (pss_one (ps_ret (pe_callTy (cTup g.K) (by rfl) tx.tuple bt_tuple (pa_cons (pe_callF (ok_led_to c) (hr.mono (by decide)) (pa_cons (pv 2) (pa_cons (pe_lc rfl nd_reached (piEnum g.K tx.enumerate (pa_cons (pv 2) pa_nil)) (blkOk_by (own := [("at", 3), ("road", 4)]) (N := N_reached) (sc := defScope sreached) (by decide +kernel)) (fun _ _ _ _ _ => (pgT g.K 2 (pgs_cons (pg_name (i := 3) nd_reached rfl (Or.inl rfl)) (pgs_cons (pg_name (i := 4) nd_reached rfl (Or.inl rfl)) pgs_nil)))) (fun _ _ _ _ _ => (pts_one (pt_cmpR op_gt (pe_ix (ixT g.K) (pv 4) pe_int (fun _ _ => rfl)) pe_int (nomark _)))) (fun _ _ _ _ _ => (pv 3))) (pa_cons (pv 1) pa_nil)))) pa_nil))))), ?_⟩
  rintro xs Q ⟨h, rs, l, rfl, h6, h12, hnd, hv, hQ⟩
  refine sq_set (net_roads (ev_var rfl)) (st_ret (ev_tupL (ev_call (ea_cons (ev_var rfl) (ea_cons (ev_lc (l := List.range rs.length) (enc := fun i : Nat => PyData.tuple [.int (i : Int), rdD (rd rs i)]) (p := fun i => decide (0 < (rd rs i).2.2)) (f := fun i : Nat => PyData.int (i : Int)) (it_enumR (0, 0, 0) (ev_var rfl)) (by rw [List.length_range]; omega)
    fun i hi => ⟨_, _, tg_tup (tgs_cons tg_d (tgs_cons tg_d tgs_nil)) rfl, by decide, eb_test (ev_gt (ev_ixTn (ev_var rfl) (ev_n 2) rfl) ev_int), fun _ => ev_var rfl⟩) (ea_cons (ev_var rfl) ea_nil)))
    ⟨rs, _, (List.range rs.length).filter fun i => decide (0 < (rd rs i).2.2), _, l, rfl, rfl, rfl, fun a ha => List.mem_range.mp (List.mem_filter.mp ha).1, h6, hnd, hv, ?_, rfl⟩) rfl) ?_)
  · have := List.length_filter_le (fun i => decide (0 < (rd rs i).2.2)) (List.range rs.length)
    rw [List.length_range] at this
    omega
  · have e : led (eds rs ((List.range rs.length).filter fun i => decide (0 < (rd rs i).2.2))) l = heardL rs l := led_congr (fun e => by
      unfold eds pos
      rw [List.mem_map, List.mem_map]
      constructor
      · rintro ⟨a, ha, rfl⟩
        obtain ⟨h1, h2⟩ := List.mem_filter.mp ha
        exact ⟨rd rs a, List.mem_filter.mpr ⟨rd_mem (List.mem_range.mp h1), h2⟩, rfl⟩
      · rintro ⟨r, hr, rfl⟩
        obtain ⟨h1, h2⟩ := List.mem_filter.mp hr
        obtain ⟨i, hi, e⟩ := List.mem_iff_getElem.mp h1
        have : rd rs i = r := by
          have h3 := rd_get hi
          rw [List.getElem?_eq_getElem hi, e] at h3
          exact (Option.some.inj h3).symm
        exact ⟨i, List.mem_filter.mpr ⟨List.mem_range.mpr hi, by rw [this]; exact h2⟩, by rw [this]⟩) fun _ => Iff.rfl
    show Q (.d (tupN (led _ l)))
    rw [e]
    exact hQ
def S_is_row : SpD := fun xs P => ∃ (rs : List Road) (row : List Nat), xs = [.d (rdsD rs), .d (tupN row)] ∧ RowOk rs row ∧ rs.length ≤ 12 ∧ P (.d (.bool true))
theorem RowOk.nd {rs : List Road} {row : List Nat} (h : RowOk rs row) : row.Nodup := h.1.imp fun h => Nat.ne_of_lt h
theorem RowOk.len {rs : List Road} {row : List Nat} (h : RowOk rs row) : row.length ≤ rs.length := nodup_leN h.nd fun a ha => (h.2 a ha).1
abbrev N_is_row : List Str := ["roads", "value", "road"]
abbrev ps_is_row : List Str := ["roads", "value"]
theorem sc_is_row : FnScope N_is_row ps_is_row (defScope sis_row) := ⟨rfl, rfl, rfl, by decide +kernel, rfl, by decide +kernel, by decide +kernel⟩
theorem nd_is_row : N_is_row.Nodup := sc_is_row.nd
theorem bd_is_row : BindH "is_row" "is_row" ps_is_row sis_row := fun _ _ _ _ _ _ us hl => match us, hl with | [_, _], _ => rfl
theorem ok_is_row {P : Program} {w : World} {mg : Str → Option Value} {base : Heap} {g : Gb} (c : Txt g mg base) : FOk P w g.K mg base 4 "is_row" ps_is_row (spOf g S_is_row) := by
  have tx := txt_tx c
  refine FOk.mk' (h_is_row c) sc_is_row bd_is_row (by intro xs Q h; unfold S_is_row at h; (repeat' (rcases h with ⟨_, h⟩)); subst_vars; rfl) fun cdv A outer s H E hr => ⟨_, (pss_cons (ps_if (PW.pt (pw_or (pt_not (pt_val (pe_callF (ok_are_numbers c) (hr.mono (by decide)) (pa_cons (pv 1) (pa_cons (pe_callB (cLen g.K) (by rfl) tx.len bt_len (pa_cons (pv 0) pa_nil)) pa_nil))))) (pw_or1 (pt_cmpR (opNeD g.K hr.units) (pe_callTy (cList g.K) (by rfl) tx.list bt_list (pa_cons (pv 1) pa_nil)) (pe_callB (cSortedS g.K) (by rfl) tx.sorted bt_sorted (pa_cons (pv 1) pa_nil)) (nomark _))))) (pss_one (ps_ret pe_bl)) pss_nil)
    (pss_one (ps_ret (pe_callB (cAll g.K rfl) (by rfl) tx.all bt_all (pa_cons (pe_lc rfl nd_is_row (piT g.K (pv 1)) (blkOk_by (own := [("road", 2)]) (N := N_is_row) (sc := defScope sis_row) (by decide +kernel)) (fun _ _ _ _ _ => (pg_name (i := 2) nd_is_row rfl (Or.inl rfl))) (fun _ _ _ _ _ => pts_nil) (fun _ _ _ _ _ => (pe_cmpR op_gt (pe_ix (ixT g.K) (pe_ix (ixL g.K) (pv 0) (pv 2) (fun _ _ => rfl)) pe_int (fun _ _ => rfl)) pe_int (nomark _)))) pa_nil))))), ?_⟩
  rintro xs Q ⟨rs, row, rfl, hr, h12, hQ⟩
  have hl := hr.len
  have es : srtN row = row := srtN_is hr.nd hr.1 fun _ => Iff.rfl
  refine sq_no (eb_or (eb_not (eb_test (ev_call (ea_cons (ev_var rfl) (ea_cons ((ev_len (ev_var rfl) rfl).is (by show Dx.d (.int ((rdsL rs).length : Int)) = .d (.int (rs.length : Int)); unfold rdsL; rw [List.length_map])) ea_nil)) ⟨row, rs.length, rfl, hr.nd, fun a ha => (hr.2 a ha).1, by omega, rfl⟩))) fun _ => eb_test (ev_neD (ev_listS (ev_var rfl) rfl) (ev_sortedN (ev_var rfl) rfl) (pl_list (n := 0) (pl_nats row)).sh (pl_list (n := 0) (pl_nats _)).sh)) (by rw [eqv_listN, es]; simp) ?_
  refine st_ret (ev_all (ev_lcA (l := row) (enc := fun a : Nat => PyData.int (a : Int)) (f := fun a : Nat => PyData.bool (decide (0 < (rd rs a).2.2))) (it_tup (ev_var rfl)) (by omega) fun a ha => ⟨_, _, tg_d, by decide, ev_gt (ev_ixTn (ev_ixLn (ev_var rfl) (ev_var rfl) rfl (rd_getD (hr.2 a ha).1)) (ev_n 2) rfl) ev_int⟩) (bs := row.map fun a => decide (0 < (rd rs a).2.2)) (by rw [List.map_map]; rfl)) ?_
  rw [all_of fun a ha => decide_eq_true (hr.2 a ha).2]
  exact hQ
def S_News_messages : SpD := fun xs P => ∃ (h : Nat) (rs ms hs : List PyData), xs = [.news h rs ms hs] ∧ P (.d (.list ms))
abbrev N_News_messages : List Str := ["self"]
abbrev ps_News_messages : List Str := ["self"]
theorem sc_News_messages : FnScope N_News_messages ps_News_messages (defScope sNews_messages) := ⟨rfl, rfl, rfl, by decide +kernel, rfl, by decide +kernel, by decide +kernel⟩
theorem nd_News_messages : N_News_messages.Nodup := sc_News_messages.nd
theorem bd_News_messages : BindH "messages" "News.messages" ps_News_messages sNews_messages := fun _ _ _ _ _ _ us hl => match us, hl with | [_], _ => rfl
theorem ok_News_messages {P : Program} {w : World} {mg : Str → Option Value} {base : Heap} {g : Gb} (c : Txt g mg base) : MOk P w g.K mg base 1 "News" "messages" ps_News_messages (spOf g S_News_messages) := by
  have tx := txt_tx c
  refine MOk.mk' (h_News_messages c) (cl_News c) sc_News_messages bd_News_messages (by intro xs Q h; unfold S_News_messages at h; (repeat' (rcases h with ⟨_, h⟩)); subst_vars; rfl) fun cdv A outer s H E hr => ⟨_, (pss_one (ps_ret (pe_callTy (cList g.K) (by rfl) tx.list bt_list (pa_cons (peFld g.K (pv 0)) pa_nil)))), ?_⟩
  rintro xs Q ⟨h, rs, ms, hs, rfl, hQ⟩
  exact st_ret (ev_listS (ev_told (cl_News c) (na_News_told c) (ev_var rfl)) rfl) hQ
theorem news_messages {g : Gb} {ta : TE} {ρ : Rho} {h : Nat} {rs ms hs : List PyData} (ha : Ev g ta ρ (.news h rs ms hs)) : Ev g (tMeth (He.ga g.K "News") "messages" (spOf g S_News_messages) [] E0 ta tNil) ρ (.d (.list ms)) := ev_methNews ha rfl ea_nil ⟨h, rs, ms, hs, rfl, rfl⟩
def S_News_hearing : SpD := fun xs P => ∃ (h : Nat) (rs ms hs : List PyData) (n : Nat) (d : PyData), xs = [.news h rs ms hs, .d (.int (n : Int))] ∧ hs[n]? = some d ∧ P (.d d)
abbrev N_News_hearing : List Str := ["self", "number"]
abbrev ps_News_hearing : List Str := ["self", "number"]
theorem sc_News_hearing : FnScope N_News_hearing ps_News_hearing (defScope sNews_hearing) := ⟨rfl, rfl, rfl, by decide +kernel, rfl, by decide +kernel, by decide +kernel⟩
theorem nd_News_hearing : N_News_hearing.Nodup := sc_News_hearing.nd
theorem bd_News_hearing : BindH "hearing" "News.hearing" ps_News_hearing sNews_hearing := fun _ _ _ _ _ _ us hl => match us, hl with | [_, _], _ => rfl
theorem ok_News_hearing {P : Program} {w : World} {mg : Str → Option Value} {base : Heap} {g : Gb} (c : Txt g mg base) : MOk P w g.K mg base 1 "News" "hearing" ps_News_hearing (spOf g S_News_hearing) := by
  have tx := txt_tx c
  refine MOk.mk' (h_News_hearing c) (cl_News c) sc_News_hearing bd_News_hearing (by intro xs Q h; unfold S_News_hearing at h; (repeat' (rcases h with ⟨_, h⟩)); subst_vars; rfl) fun cdv A outer s H E hr => ⟨_, (pss_one (ps_ret (pe_ix (ixL g.K) (peFld g.K (pv 0)) (pv 1) (fun _ _ => rfl)))), ?_⟩
  rintro xs Q ⟨h, rs, ms, hs, n, d, rfl, hd, hQ⟩
  exact st_ret (ev_ixLn (ev_heard (cl_News c) (na_News_heard c) (ev_var rfl)) (ev_var rfl) rfl hd) hQ
theorem news_hearing {g : Gb} {ta te : TE} {ρ : Rho} {h : Nat} {rs : List Road} {ms : List Msg} {n : Nat} (ha : Ev g ta ρ (newsX h rs ms)) (hb : Ev g te ρ (.d (.int (n : Int)))) (hn : n < ms.length) : Ev g (tMeth (He.ga g.K "News") "hearing" (spOf g S_News_hearing) [] E0 ta (tCons te tNil)) ρ (.d (tupN (heardL rs (md ms n).1))) :=
  ev_methNews (h := h) (rs := rdsL rs) (ms := ms.map msgD) (hs := (ms.map fun m : Msg => heardL rs m.1).map tupN) ha rfl (ea_cons hb ea_nil) ⟨h, _, _, _, n, tupN (heardL rs (md ms n).1), rfl, by rw [List.getElem?_map, List.getElem?_map, md_get hn]; rfl, rfl⟩
theorem news_net_roads {g : Gb} {mg : Str → Option Value} {base : Heap} (c : Txt g mg base) {ta : TE} {ρ : Rho} {h : Nat} {rs ms hs : List PyData} (ha : Ev g ta ρ (.news h rs ms hs)) : Ev g (tMeth (He.ga g.K "Net") "roads" (spOf g S_Net_roads) [] E0 (tFld g.K ta "net") tNil) ρ (.d (.list rs)) := net_roads (ev_net (cl_News c) (na_News_net c) ha)
def S_is_entry : SpD := fun xs P => ∃ (h : Nat) (rs : List Road) (ms : List Msg) (e : Ent), xs = [newsX h rs ms, .d (entD e)] ∧ EntOk ms e ∧ P (.d (.bool true))
abbrev N_is_entry : List Str := ["news", "value"]
abbrev ps_is_entry : List Str := ["news", "value"]
theorem sc_is_entry : FnScope N_is_entry ps_is_entry (defScope sis_entry) := ⟨rfl, rfl, rfl, by decide +kernel, rfl, by decide +kernel, by decide +kernel⟩
theorem nd_is_entry : N_is_entry.Nodup := sc_is_entry.nd
theorem bd_is_entry : BindH "is_entry" "is_entry" ps_is_entry sis_entry := fun _ _ _ _ _ _ us hl => match us, hl with | [_, _], _ => rfl
theorem ok_is_entry {P : Program} {w : World} {mg : Str → Option Value} {base : Heap} {g : Gb} (c : Txt g mg base) : FOk P w g.K mg base 3 "is_entry" ps_is_entry (spOf g S_is_entry) := by
  have tx := txt_tx c
  refine FOk.mk' (h_is_entry c) sc_is_entry bd_is_entry (by intro xs Q h; unfold S_is_entry at h; (repeat' (rcases h with ⟨_, h⟩)); subst_vars; rfl) fun cdv A outer s H E hr => ⟨_, (pss_cons (ps_if (PW.pt (pw_or (pt_not (pt_val (pe_callB (cIsi g.K) (by rfl) tx.isinstance bt_isinstance (pa_cons (pv 1) (pa_cons (pe_bltn (v := .ty "tuple") (by rfl) tx.tuple bt_tuple rfl) pa_nil))))) (pw_or1 (pt_cmpR op_ne (pe_callB (cLen g.K) (by rfl) tx.len bt_len (pa_cons (pv 1) pa_nil)) pe_int (nomark _))))) (pss_one (ps_ret pe_bl)) pss_nil)
    (pss_one (ps_ret (pe_and (pe_callF (ok_is_number c) (hr.mono (by decide)) (pa_cons (pe_ix (ixT g.K) (pv 1) pe_int (fun _ _ => rfl)) (pa_cons pe_int (pa_cons (pe_op op_sub (pe_callB (cLen g.K) (by rfl) tx.len bt_len (pa_cons (peMeth0 g.K (ok_News_messages c) (hr.mono (by decide)) (pv 0)) pa_nil)) pe_int) pa_nil)))) (pe_one (pe_callF (ok_is_count c) (hr.mono (by decide)) (pa_cons (pe_ix (ixT g.K) (pv 1) pe_int (fun _ _ => rfl)) pa_nil))))))), ?_⟩
  rintro xs Q ⟨h, rs, ms, ⟨n, row, t⟩, rfl, ⟨hn, ht⟩, hQ⟩
  dsimp only at hn ht
  have in1 : Ev g (tVar 1) (startR N_is_entry [newsX h rs ms, .d (entD (n, row, t))]) (.d (.tuple [.int (n : Int), tupN row, .int t])) := ev_var rfl
  refine sq_no (eb_or (eb_not (eb_test (ev_isi in1 rfl rfl))) fun _ => eb_test (ev_neN (ev_len in1 rfl) (ev_n 3))) (by simp) ?_
  refine st_ret (ev_andV (ev_call (ea_cons (ev_ixTn in1 (ev_n 0) rfl) (ea_cons ev_int (ea_cons (ev_sub ((ev_len (news_messages (h := h) (rs := rdsL rs) (ms := ms.map msgD) (ev_var rfl)) rfl).is (by rw [List.length_map])) ev_int) ea_nil))) ⟨_, _, _, rfl, rfl⟩) fun _ => ev_call (ea_cons (ev_ixTn in1 (ev_n 2) rfl) ea_nil) ⟨_, rfl, rfl⟩) ?_
  have : ((decide ((0 : Int) ≤ n) && decide ((n : Int) ≤ (ms.length : Int) - 1)) && decide (1 ≤ t)) = true := by
    simp
    omega
  rw [this]
  exact hQ
def S_fits : SpD := fun xs P => ∃ (h : Nat) (rs : List Road) (ms : List Msg) (es : List Ent), xs = [newsX h rs ms, .d (entsD es)] ∧ Bear rs (es.map fun e => e.2) ∧ es.length ≤ 1000000 ∧ P (.d (.bool true))
theorem useOf_ents (es : List Ent) (a : Nat) : useOf (es.map fun e => e.2) a = ((es.filter fun e => decide (a ∈ e.2.1)).map fun e => e.2.2).sum := by
  unfold useOf
  rw [List.filter_map, List.map_map]
  rfl
abbrev N_fits : List Str := ["news", "rows", "road", "start", "end", "width", "number", "some", "times"]
abbrev ps_fits : List Str := ["news", "rows"]
theorem sc_fits : FnScope N_fits ps_fits (defScope sfits) := ⟨rfl, rfl, rfl, by decide +kernel, rfl, by decide +kernel, by decide +kernel⟩
theorem nd_fits : N_fits.Nodup := sc_fits.nd
theorem bd_fits : BindH "fits" "fits" ps_fits sfits := fun _ _ _ _ _ _ us hl => match us, hl with | [_, _], _ => rfl
theorem ok_fits {P : Program} {w : World} {mg : Str → Option Value} {base : Heap} {g : Gb} (c : Txt g mg base) : FOk P w g.K mg base 2 "fits" ps_fits (spOf g S_fits) := by
  have tx := txt_tx c
  refine FOk.mk' (h_fits c) sc_fits bd_fits (by intro xs Q h; unfold S_fits at h; (repeat' (rcases h with ⟨_, h⟩)); subst_vars; rfl) fun cdv A outer s H E hr => ⟨_, (pss_cons (ps_for PassesOwn.never rfl (piEnum g.K tx.enumerate (pa_cons (peMeth0 g.K (ok_Net_roads c) (hr.mono (by decide)) (peFld g.K (pv 0))) pa_nil)) (pgT g.K 2 (pgs_cons (pg_name (i := 2) nd_fits rfl (Or.inr rfl)) (pgs_cons (pgT g.K 3 (pgs_cons (pg_name (i := 3) nd_fits rfl (Or.inl rfl)) (pgs_cons (pg_name (i := 4) nd_fits rfl (Or.inl rfl)) (pgs_cons (pg_name (i := 5) nd_fits rfl (Or.inl rfl)) pgs_nil)))) pgs_nil))) (pss_one (ps_if (pt_cmpR op_gt (pe_callB (cSum g.K rfl) (by rfl) tx.sum bt_sum (pa_cons (pe_lc rfl nd_fits (piL g.K (pv 1)) (blkOk_by (own := [("number", 6), ("some", 7), ("times", 8)]) (N := N_fits) (sc := defScope sfits) (by decide +kernel)) (fun _ _ _ _ _ => (pgT g.K 3 (pgs_cons (pg_name (i := 6) nd_fits rfl (Or.inl rfl)) (pgs_cons (pg_name (i := 7) nd_fits rfl (Or.inl rfl)) (pgs_cons (pg_name (i := 8) nd_fits rfl (Or.inl rfl)) pgs_nil))))) (fun _ _ _ _ _ => (pts_one (pt_cmpR (opIn g.K) (pv 2) (pv 7) (by rfl)))) (fun _ _ _ _ _ => (pv 8))) pa_nil)) (pv 5) (nomark _)) (pss_one (ps_ret pe_bl)) pss_nil)))
    (pss_one (ps_ret pe_bl))), ?_⟩
  rintro xs Q ⟨h, rs, ms, es, rfl, hb, hl, hQ⟩
  refine st_seq (M := fun ρ => True) (st_for (it_enumR (l := rs) (enc := rdD) (0, 0, 0) (news_net_roads c (rs := rdsL rs) (ev_var rfl))) (fun _ i ρ => ∃ a b d e, ρ = [some (newsX h rs ms), some (.d (entsD es)), a, b, d, e, none, none, none]) ?_ ?_ (fun _ _ _ _ => trivial)) ?_
  · rintro ds rfl
    exact ⟨_, _, _, _, rfl⟩
  · rintro ds i d ρ rfl hd ⟨a, b, e, f, rfl⟩
    rw [List.getElem?_map] at hd
    by_cases hi : i < rs.length
    · rw [List.getElem?_range hi] at hd
      cases hd
      refine ⟨_, _, tg_tup (tgs_cons tg_d (tgs_cons (tg_tup (tgs_cons tg_d (tgs_cons tg_d (tgs_cons tg_d tgs_nil))) rfl) tgs_nil)) rfl, ?_⟩
      refine st_ifB (eb_test (ev_gt (ev_sum (ev_lc (l := es) (enc := entD) (p := fun e => decide (i ∈ e.2.1)) (f := fun e : Ent => PyData.int e.2.2) (it_list (ev_var rfl)) (by omega) fun e he => ⟨_, _, tg_tup (tgs_cons tg_d (tgs_cons tg_d (tgs_cons tg_d tgs_nil))) rfl, by decide, eb_test (ev_inN (ev_var rfl) (ev_var rfl) rfl), fun _ => ev_var rfl⟩) (ns := (es.filter fun e => decide (i ∈ e.2.1)).map fun e : Ent => e.2.2) (by rw [List.map_map]; rfl)) (ev_var rfl))) (fun e => ?_) fun _ => st_nx ⟨_, _, _, _, rfl⟩
      exfalso
      have h1 := hb i hi
      rw [useOf_ents] at h1
      have h2 := of_decide_eq_true e
      have h3 : (rs.getD i (0, 0, 0)).2.2 = (rd rs i).2.2 := rfl
      omega
    · rw [List.getElem?_eq_none (by rw [List.length_range]; omega)] at hd
      cases hd
  · rintro ρ -
    exact st_ret ev_bl hQ
def S_sums_of : SpD := fun xs P => ∃ (h : Nat) (rs : List Road) (ms : List Msg) (es : List Ent), xs = [newsX h rs ms, .d (entsD es)] ∧ ms.length ≤ 3 ∧ es.length ≤ 1000000 ∧ P (.d (intL ((List.range ms.length).map (sumOf es))))
abbrev N_sums_of : List Str := ["news", "rows", "at", "some", "times", "number"]
abbrev ps_sums_of : List Str := ["news", "rows"]
theorem sc_sums_of : FnScope N_sums_of ps_sums_of (defScope ssums_of) := ⟨rfl, rfl, rfl, by decide +kernel, rfl, by decide +kernel, by decide +kernel⟩
theorem nd_sums_of : N_sums_of.Nodup := sc_sums_of.nd
theorem bd_sums_of : BindH "sums_of" "sums_of" ps_sums_of ssums_of := fun _ _ _ _ _ _ us hl => match us, hl with | [_, _], _ => rfl
theorem ok_sums_of {P : Program} {w : World} {mg : Str → Option Value} {base : Heap} {g : Gb} (c : Txt g mg base) : FOk P w g.K mg base 3 "sums_of" ps_sums_of (spOf g S_sums_of) := by
  have tx := txt_tx c
  refine FOk.mk' (h_sums_of c) sc_sums_of bd_sums_of (by intro xs Q h; unfold S_sums_of at h; (repeat' (rcases h with ⟨_, h⟩)); subst_vars; rfl) fun cdv A outer s H E hr => ⟨_, (pss_one (ps_ret (pe_lc rfl nd_sums_of (pi_range1 rfl tx.range (pa_cons (pe_callB (cLen g.K) (by rfl) tx.len bt_len (pa_cons (peMeth0 g.K (ok_News_messages c) (hr.mono (by decide)) (pv 0)) pa_nil)) pa_nil)) (blkOk_by (own := [("number", 5)]) (N := N_sums_of) (sc := defScope ssums_of) (by decide +kernel)) (fun _ _ _ _ _ => (pg_name (i := 5) nd_sums_of rfl (Or.inr rfl))) (fun _ _ _ _ _ => pts_nil) (fun _ _ _ _ _ => (pe_callB (cSum g.K rfl) (by rfl) tx.sum bt_sum (pa_cons (pe_lc rfl nd_sums_of (piL g.K (pv 1)) (blkOk_by (own := [("at", 2), ("some", 3), ("times", 4)]) (by kernel_rfl)) (fun _ _ _ _ _ => (pgT g.K 3 (pgs_cons (pg_name (i := 2) nd_sums_of rfl (Or.inl rfl)) (pgs_cons (pg_name (i := 3) nd_sums_of rfl (Or.inl rfl)) (pgs_cons (pg_name (i := 4) nd_sums_of rfl (Or.inl rfl)) pgs_nil))))) (fun _ _ _ _ _ => (pts_one (pt_cmpR op_eq (pv 2) (pv 5) (nomark _)))) (fun _ _ _ _ _ => (pv 4))) pa_nil)))))), ?_⟩
  rintro xs Q ⟨h, rs, ms, es, rfl, hm, hl, hQ⟩
  refine st_ret ((ev_lcA (l := List.range ms.length) (enc := fun n : Nat => PyData.int (n : Int)) (f := fun n : Nat => PyData.int (sumOf es n)) (it_rangeN ((ev_len (news_messages (h := h) (rs := rdsL rs) (ms := ms.map msgD) (ev_var rfl)) rfl).is (by rw [List.length_map])) (by omega)) (by rw [List.length_range]; omega) fun n hn => ⟨_, _, tg_d, by decide, ev_sum (ev_lc (l := es) (enc := entD) (p := fun e => decide (e.1 = n)) (f := fun e : Ent => PyData.int e.2.2) (it_list (ev_var rfl)) (by omega) fun e he => ⟨_, _, tg_tup (tgs_cons tg_d (tgs_cons tg_d (tgs_cons tg_d tgs_nil))) rfl, by decide, eb_test (ev_eqN (ev_var rfl) (ev_var rfl)), fun _ => ev_var rfl⟩) (ns := (es.filter fun e => decide (e.1 = n)).map fun e : Ent => e.2.2) (by rw [List.map_map]; rfl)⟩).is (by unfold intL; rw [List.map_map]; rfl)) hQ
def strained (m s e K : Nat) : Bool := m.testBit e && (!m.testBit s && !decide (m &&& K = 0))
def S_is_strained : SpD := fun xs P => ∃ (m s e K : Nat), xs = [.d (.int (m : Int)), .d (.int (s : Int)), .d (.int (e : Int)), .d (.int (K : Int))] ∧ P (.d (.bool (strained m s e K)))
abbrev N_is_strained : List Str := ["mask", "start", "end", "known"]
abbrev ps_is_strained : List Str := ["mask", "start", "end", "known"]
theorem sc_is_strained : FnScope N_is_strained ps_is_strained (defScope sis_strained) := ⟨rfl, rfl, rfl, by decide +kernel, rfl, by decide +kernel, by decide +kernel⟩
theorem nd_is_strained : N_is_strained.Nodup := sc_is_strained.nd
theorem bd_is_strained : BindH "is_strained" "is_strained" ps_is_strained sis_strained := fun _ _ _ _ _ _ us hl => match us, hl with | [_, _, _, _], _ => rfl
theorem ok_is_strained {P : Program} {w : World} {mg : Str → Option Value} {base : Heap} {g : Gb} (c : Txt g mg base) : FOk P w g.K mg base 1 "is_strained" ps_is_strained (spOf g S_is_strained) := by
  have tx := txt_tx c
  refine FOk.mk' (h_is_strained c) sc_is_strained bd_is_strained (by intro xs Q h; unfold S_is_strained at h; (repeat' (rcases h with ⟨_, h⟩)); subst_vars; rfl) fun cdv A outer s H E hr => ⟨_, (pss_one (ps_ret (pe_and (pe_cmpR op_eq (pe_op op_and (pe_op op_shr (pv 0) (pv 2)) pe_int) pe_int (nomark _)) (pe_and (pe_cmpR op_eq (pe_op op_and (pe_op op_shr (pv 0) (pv 1)) pe_int) pe_int (nomark _)) (pe_one (pe_cmpR op_ne (pe_op op_and (pv 0) (pv 3)) pe_int (nomark _))))))), ?_⟩
  rintro xs Q ⟨m, s', e, K, rfl, hQ⟩
  refine st_ret ((ev_andV (ev_eqN (ev_and (ev_shr (ev_var rfl) (ev_var rfl)) (ev_n 1)) (ev_n 1)) fun _ => ev_andV (ev_eqN (ev_and (ev_shr (ev_var rfl) (ev_var rfl)) (ev_n 1)) (ev_n 0)) fun _ => ev_neN (ev_and (ev_var rfl) (ev_var rfl)) (ev_n 0)).is (by rw [tb1, tb0]; rfl)) hQ
def narrow (rs : List Road) (f : List Nat) (t : Int) : List Road := (List.range rs.length).map fun a => ((rd rs a).1, (rd rs a).2.1, if a ∈ f then (rd rs a).2.2 - t else (rd rs a).2.2)
def S_narrowed : SpD := fun xs P => ∃ (rs : List Road) (f : List Nat) (t : Int), xs = [.d (rdsD rs), .d (tupN f), .d (.int t)] ∧ rs.length ≤ 1000 ∧ P (.d (rdsD (narrow rs f t)))
abbrev N_narrowed : List Str := ["roads", "forest", "times", "found", "at", "start", "end", "width"]
abbrev ps_narrowed : List Str := ["roads", "forest", "times"]
theorem sc_narrowed : FnScope N_narrowed ps_narrowed (defScope snarrowed) := ⟨rfl, rfl, rfl, by decide +kernel, rfl, by decide +kernel, by decide +kernel⟩
theorem nd_narrowed : N_narrowed.Nodup := sc_narrowed.nd
theorem bd_narrowed : BindH "narrowed" "narrowed" ps_narrowed snarrowed := fun _ _ _ _ _ _ us hl => match us, hl with | [_, _, _], _ => rfl
theorem ok_narrowed {P : Program} {w : World} {mg : Str → Option Value} {base : Heap} {g : Gb} (c : Txt g mg base) : FOk P w g.K mg base 1 "narrowed" ps_narrowed (spOf g S_narrowed) := by
  have tx := txt_tx c
  refine FOk.mk' (h_narrowed c) sc_narrowed bd_narrowed (by intro xs Q h; unfold S_narrowed at h; (repeat' (rcases h with ⟨_, h⟩)); subst_vars; rfl) fun cdv A outer s H E hr => ⟨_, (pss_cons (ps_set (i := 3) nd_narrowed rfl (Or.inl rfl) (pe_lst pa_nil))
    (pss_cons (ps_for PassesOwn.never rfl (piEnum g.K tx.enumerate (pa_cons (pv 0) pa_nil)) (pgT g.K 2 (pgs_cons (pg_name (i := 4) nd_narrowed rfl (Or.inl rfl)) (pgs_cons (pgT g.K 3 (pgs_cons (pg_name (i := 5) nd_narrowed rfl (Or.inl rfl)) (pgs_cons (pg_name (i := 6) nd_narrowed rfl (Or.inl rfl)) (pgs_cons (pg_name (i := 7) nd_narrowed rfl (Or.inl rfl)) pgs_nil)))) pgs_nil))) (pss_one (ps_expr (pe_bm PySem.F.plainAttrs_list PySem.F.slot_list_append PySem.F.type_list_append mt_append (pv 3) (pa_cons (pe_tup (pa_cons (pv 5) (pa_cons (pv 6) (pa_cons (pe_ifExp (pt_cmpR (opIn g.K) (pv 4) (pv 1) (by rfl)) (pe_op op_sub (pv 7) (pv 2)) (pv 7)) pa_nil)))) pa_nil)))))
    (pss_one (ps_ret (pv 3))))), ?_⟩
  rintro xs Q ⟨rs, f, t, rfl, hl, hQ⟩
  refine sq_own (st_seq (M := fun ρ => ∃ a b d e, ρ = [some (.d (rdsD rs)), some (.d (tupN f)), some (.d (.int t)), some (.own (rdsL (narrow rs f t))), a, b, d, e]) (st_for (it_enumR (l := rs) (enc := rdD) (0, 0, 0) (ev_var rfl))
    (fun _ i ρ => ∃ acc a b d e, acc = (List.range i).map (fun a => rdD ((rd rs a).1, (rd rs a).2.1, if a ∈ f then (rd rs a).2.2 - t else (rd rs a).2.2)) ∧ ρ = [some (.d (rdsD rs)), some (.d (tupN f)), some (.d (.int t)), some (.own acc), a, b, d, e]) ?_ ?_ ?_) ?_)
  · rintro ds rfl
    exact ⟨_, _, _, _, _, rfl, rfl⟩
  · rintro ds i d ρ rfl hd ⟨acc, a, b, e, e2, ha, rfl⟩
    rw [List.getElem?_map] at hd
    by_cases hi : i < rs.length
    · rw [List.getElem?_range hi] at hd
      cases hd
      refine ⟨_, _, tg_tup (tgs_cons tg_d (tgs_cons (tg_tup (tgs_cons tg_d (tgs_cons tg_d (tgs_cons tg_d tgs_nil))) rfl) tgs_nil)) rfl, ?_⟩
      refine st_app rfl (ev_tup (ds := [.int ((rd rs i).1 : Int), .int ((rd rs i).2.1 : Int), .int (if i ∈ f then (rd rs i).2.2 - t else (rd rs i).2.2)]) (ea_cons (ev_var rfl) (ea_cons (ev_var rfl) (ea_cons ((ev_if (eb_test (ev_inN (ev_var rfl) (ev_var rfl) rfl)) (fun _ => ev_sub (ev_var rfl) (ev_var rfl)) (fun _ => ev_var rfl)).is ?_) ea_nil))) (by simp)) (by rw [ha, List.length_map, List.length_range]; omega) ⟨_, _, _, _, _, ?_, rfl⟩
      · by_cases h : i ∈ f
        · simp [h, rd]
        · simp [h, rd]
      · rw [ha, List.range_succ, List.map_append]
        rfl
    · rw [List.getElem?_eq_none (by rw [List.length_range]; omega)] at hd
      cases hd
  · rintro ds ρ rfl ⟨acc, a, b, d, e, ha, rfl⟩
    refine ⟨a, b, d, e, ?_⟩
    rw [ha, List.length_map, List.length_range]
    unfold narrow rdsL
    rw [List.map_map]
    rfl
  · rintro ρ ⟨a, b, d, e, rfl⟩
    exact st_retOwn rfl hQ
def meetB (a b : List Nat) : Bool := a.any fun v => decide (v ∈ b)
def S_meet : SpD := fun xs P => ∃ (a b : List Nat), xs = [.d (tupN a), .d (tupN b)] ∧ a.length ≤ 1000 ∧ P (.d (.bool (meetB a b)))
abbrev N_meet : List Str := ["some", "others", "one"]
abbrev ps_meet : List Str := ["some", "others"]
theorem sc_meet : FnScope N_meet ps_meet (defScope smeet) := ⟨rfl, rfl, rfl, by decide +kernel, rfl, by decide +kernel, by decide +kernel⟩
theorem nd_meet : N_meet.Nodup := sc_meet.nd
theorem bd_meet : BindH "meet" "meet" ps_meet smeet := fun _ _ _ _ _ _ us hl => match us, hl with | [_, _], _ => rfl
theorem ok_meet {P : Program} {w : World} {mg : Str → Option Value} {base : Heap} {g : Gb} (c : Txt g mg base) : FOk P w g.K mg base 1 "meet" ps_meet (spOf g S_meet) := by
  have tx := txt_tx c
  refine FOk.mk' (h_meet c) sc_meet bd_meet (by intro xs Q h; unfold S_meet at h; (repeat' (rcases h with ⟨_, h⟩)); subst_vars; rfl) fun cdv A outer s H E hr => ⟨_, (pss_one (ps_ret (pe_callB (cAny g.K rfl) (by rfl) tx.any bt_any (pa_cons (pe_lc rfl nd_meet (piT g.K (pv 0)) (blkOk_by (own := [("one", 2)]) (N := N_meet) (sc := defScope smeet) (by decide +kernel)) (fun _ _ _ _ _ => (pg_name (i := 2) nd_meet rfl (Or.inl rfl))) (fun _ _ _ _ _ => pts_nil) (fun _ _ _ _ _ => (pe_cmpR (opIn g.K) (pv 2) (pv 1) (by rfl)))) pa_nil)))), ?_⟩
  rintro xs Q ⟨a, b, rfl, hl, hQ⟩
  refine st_ret ((ev_any (ev_lcA (l := a) (enc := fun v : Nat => PyData.int (v : Int)) (f := fun v : Nat => PyData.bool (decide (v ∈ b))) (it_tup (ev_var rfl)) (by omega) fun v hv => ⟨_, _, tg_d, by decide, ev_inN (ev_var rfl) (ev_var rfl) rfl⟩) (bs := a.map fun v => decide (v ∈ b)) (by rw [List.map_map]; rfl)).is (by unfold meetB; rw [List.any_map]; rfl)) hQ
def S_pieces_of : SpD := fun xs P => ∃ (h : Nat) (rs : List Road) (ms : List Msg), xs = [newsX h rs ms] ∧ ms.length ≤ 3 ∧ P (.d (intL (ms.map fun m => m.2)))
abbrev N_pieces_of : List Str := ["news", "knowing", "pieces"]
abbrev ps_pieces_of : List Str := ["news"]
theorem sc_pieces_of : FnScope N_pieces_of ps_pieces_of (defScope spieces_of) := ⟨rfl, rfl, rfl, by decide +kernel, rfl, by decide +kernel, by decide +kernel⟩
theorem nd_pieces_of : N_pieces_of.Nodup := sc_pieces_of.nd
theorem bd_pieces_of : BindH "pieces_of" "pieces_of" ps_pieces_of spieces_of := fun _ _ _ _ _ _ us hl => match us, hl with | [_], _ => rfl
theorem ok_pieces_of {P : Program} {w : World} {mg : Str → Option Value} {base : Heap} {g : Gb} (c : Txt g mg base) : FOk P w g.K mg base 2 "pieces_of" ps_pieces_of (spOf g S_pieces_of) := by
  have tx := txt_tx c
  refine FOk.mk' (h_pieces_of c) sc_pieces_of bd_pieces_of (by intro xs Q h; unfold S_pieces_of at h; (repeat' (rcases h with ⟨_, h⟩)); subst_vars; rfl) fun cdv A outer s H E hr => ⟨_, (pss_one (ps_ret (pe_lc rfl nd_pieces_of (piL g.K (peMeth0 g.K (ok_News_messages c) (hr.mono (by decide)) (pv 0))) (blkOk_by (own := [("knowing", 1), ("pieces", 2)]) (N := N_pieces_of) (sc := defScope spieces_of) (by decide +kernel)) (fun _ _ _ _ _ => (pgT g.K 2 (pgs_cons (pg_name (i := 1) nd_pieces_of rfl (Or.inl rfl)) (pgs_cons (pg_name (i := 2) nd_pieces_of rfl (Or.inl rfl)) pgs_nil)))) (fun _ _ _ _ _ => pts_nil) (fun _ _ _ _ _ => (pv 2))))), ?_⟩
  rintro xs Q ⟨h, rs, ms, rfl, hm, hQ⟩
  refine st_ret ((ev_lcA (l := ms) (enc := msgD) (f := fun m : Msg => PyData.int m.2) (it_list (news_messages (h := h) (rs := rdsL rs) (ms := ms.map msgD) (ev_var rfl))) (by omega) fun m hm => ⟨_, _, tg_tup (tgs_cons tg_d (tgs_cons tg_d tgs_nil)) rfl, by decide, ev_var rfl⟩).is (by unfold intL; rw [List.map_map]; rfl)) hQ
end TB
set_option Elab.async false
set_option linter.all false
set_option autoImplicit false
set_option maxRecDepth 100000
set_option maxHeartbeats 4000000
namespace TB
open PySem PySem.Spec PyProof.Rows L2
def needB (s : Stm) (m : Nat) : Bool := decide (m &&& s.1 = 0) && !decide (m &&& s.2.1 = 0)
def spareM (rs : List Road) (ss : List Stm) (m : Nat) : Int := ss.foldl (fun a s => if needB s m then a - s.2.2 else a) (inflowM rs m)
def sparesM (h : Nat) (rs : List Road) (ss : List Stm) : List Int := (List.range (1 <<< h)).map (spareM rs ss)
theorem pow6 {h : Nat} (hh : h ≤ 6) : 1 <<< h ≤ 64 := by
  rw [Nat.one_shiftLeft]
  exact Nat.pow_le_pow_right (by decide) hh
theorem spareM_take {rs : List Road} {ss : List Stm} {i : Nat} {s : Stm} (h : ss[i]? = some s) (m : Nat) : spareM rs (ss.take (i + 1)) m = if needB s m then spareM rs (ss.take i) m - s.2.2 else spareM rs (ss.take i) m := by
  unfold spareM
  rw [List.take_add_one, h, Option.toList_some, List.foldl_append]
  rfl
theorem getD_range_map {α : Type} {f : Nat → α} {n i : Nat} {d : α} (h : i < n) : ((List.range n).map f).getD i d = f i := by
  rw [List.getD_eq_getElem?_getD, List.getElem?_map, List.getElem?_range h]
  rfl
theorem it_enumI {g : Gb} {te : TE} {ρ : Rho} {K : PySem.W.Frag} {ns : List Int} (h : Ev g te ρ (.d (intL ns))) : ItP g (iEnum K (tCons te tNil)) ρ (fun y => y = (List.range ns.length).map fun (i : Nat) => PyData.tuple [.int (i : Int), .int (ns.getD i 0)]) := it_enumR (l := ns) (enc := PyData.int) 0 h
def S_spares : SpD := fun xs P => ∃ (h : Nat) (rs : List Road) (ss : List Stm), xs = [.d (.int (h : Int)), .d (rdsD rs), .d (stsD ss)] ∧ h ≤ 6 ∧ rs.length ≤ 1000 ∧ P (.d (intL (sparesM h rs ss)))
abbrev N_spares : List Str := ["houses", "roads", "streams", "found", "known", "target", "times", "mask", "spare"]
abbrev ps_spares : List Str := ["houses", "roads", "streams"]
theorem sc_spares : FnScope N_spares ps_spares (defScope sspares) := ⟨rfl, rfl, rfl, by decide +kernel, rfl, by decide +kernel, by decide +kernel⟩
theorem nd_spares : N_spares.Nodup := sc_spares.nd
theorem bd_spares : BindH "spares" "spares" ps_spares sspares := fun _ _ _ _ _ _ us hl => match us, hl with | [_, _, _], _ => rfl
theorem ok_spares {P : Program} {w : World} {mg : Str → Option Value} {base : Heap} {g : Gb} (c : Txt g mg base) : FOk P w g.K mg base 2 "spares" ps_spares (spOf g S_spares) := by
  have tx := txt_tx c
  refine FOk.mk' (h_spares c) sc_spares bd_spares (by intro xs Q h; unfold S_spares at h; (repeat' (rcases h with ⟨_, h⟩)); subst_vars; rfl) fun cdv A outer s H E hr => ⟨_, (pss_cons (ps_set (i := 3) nd_spares rfl (Or.inl rfl) (pe_callF (ok_inflows c) (hr.mono (by decide)) (pa_cons (pv 0) (pa_cons (pv 1) pa_nil))))
    (pss_cons (ps_for PassesOwn.never rfl (piL g.K (pv 2)) (pgL g.K 3 (pgs_cons (pg_name (i := 4) nd_spares rfl (Or.inr rfl)) (pgs_cons (pg_name (i := 5) nd_spares rfl (Or.inr rfl)) (pgs_cons (pg_name (i := 6) nd_spares rfl (Or.inr rfl)) pgs_nil)))) (pss_one (ps_setLc (i := 3) rfl nd_spares rfl rfl (sw_true rfl rfl rfl (by decide +kernel)) (piEnum g.K tx.enumerate (pa_cons (pv 3) pa_nil)) (blkOk_by (own := [("mask", 7), ("spare", 8)]) (N := N_spares) (sc := defScope sspares) (by decide +kernel)) (fun _ _ _ _ _ => (pgT g.K 2 (pgs_cons (pg_name (i := 7) nd_spares rfl (Or.inl rfl)) (pgs_cons (pg_name (i := 8) nd_spares rfl (Or.inl rfl)) pgs_nil)))) (fun _ _ _ _ _ => pts_nil) (fun _ _ _ _ _ => (pe_ifExp (PW.pt (pw_and (pt_cmpR op_eq (pe_op op_and (pv 7) (pv 4)) pe_int (nomark _)) (pw_and1 (pt_cmpR op_ne (pe_op op_and (pv 7) (pv 5)) pe_int (nomark _))))) (pe_op op_sub (pv 8) (pv 6)) (pv 8))))))
    (pss_one (ps_ret (pv 3))))), ?_⟩
  rintro xs Q ⟨h, rs, ss, rfl, hh, hl, hQ⟩
  have hp := pow6 hh
  refine sq_set (ev_call (P := fun y => y = .d (intL (inflowsM h rs))) (ea_cons (ev_var rfl) (ea_cons (ev_var rfl) ea_nil)) ⟨h, rs, rfl, hh, hl, rfl⟩) (st_seq (M := fun ρ => ∃ a b d, ρ = [some (.d (.int (h : Int))), some (.d (rdsD rs)), some (.d (stsD ss)), some (.d (intL (sparesM h rs ss))), a, b, d, none, none])
    (st_for (it_list (ev_var rfl)) (fun _ i ρ => ∃ a b d, ρ = [some (.d (.int (h : Int))), some (.d (rdsD rs)), some (.d (stsD ss)), some (.d (intL (sparesM h rs (ss.take i)))), a, b, d, none, none]) ?_ ?_ ?_) ?_)
  · rintro ds rfl
    exact ⟨none, none, none, rfl⟩
  · rintro ds i d ρ rfl hd ⟨a, b, e, rfl⟩
    rw [List.getElem?_map] at hd
    cases hs : ss[i]? with
    | none => rw [hs] at hd; cases hd
    | some s =>
      rw [hs] at hd
      cases hd
      refine ⟨_, _, tg_lst (tgs_cons tg_d (tgs_cons tg_d (tgs_cons tg_d tgs_nil))) rfl, st_set (x := .d (intL (sparesM h rs (ss.take (i + 1))))) ((ev_lcA (l := List.range (sparesM h rs (ss.take i)).length) (enc := fun m : Nat => PyData.tuple [.int (m : Int), .int ((sparesM h rs (ss.take i)).getD m 0)])
        (f := fun m : Nat => PyData.int (if needB s m then (sparesM h rs (ss.take i)).getD m 0 - s.2.2 else (sparesM h rs (ss.take i)).getD m 0)) (it_enumI (ev_var rfl)) ?_ fun m hm => ⟨_, _, tg_tup (tgs_cons tg_d (tgs_cons tg_d tgs_nil)) rfl, by decide,
          (ev_if (eb_and (eb_test (ev_eqN (ev_and (ev_var rfl) (ev_var rfl)) (ev_n 0))) (fun _ => eb_test (ev_neN (ev_and (ev_var rfl) (ev_var rfl)) (ev_n 0)))) (fun _ => ev_sub (ev_var rfl) (ev_var rfl)) (fun _ => ev_var rfl)).is ?_⟩).is ?_) rfl ⟨_, _, _, rfl⟩⟩
      · unfold sparesM
        rw [List.length_range, List.length_map, List.length_range]
        omega
      · show (if needB s m = true then _ else _) = _
        cases needB s m <;> rfl
      · congr 2
        unfold sparesM
        rw [List.map_map, List.length_map, List.length_range]
        refine List.map_congr_left fun m hm => ?_
        rw [getD_range_map (List.mem_range.mp hm)]
        show _ = PyData.int (spareM rs (ss.take (i + 1)) m)
        rw [spareM_take hs]
  · rintro ds ρ rfl ⟨a, b, e, rfl⟩
    refine ⟨a, b, e, ?_⟩
    rw [List.length_map, List.take_length]
  · rintro ρ ⟨a, b, e, rfl⟩
    exact st_ret (ev_var rfl) hQ
def goodR (rs : List Road) (sp : List Int) (K a : Nat) : Bool := decide (0 < (rd rs a).2.2) && (K.testBit (rd rs a).1 && (!K.testBit (rd rs a).2.1 && decide ((List.range sp.length).filter (fun m => decide (sp.getD m 0 = 0) && strained m (rd rs a).1 (rd rs a).2.1 K) = [])))
def IsNext (rs : List Road) (sp : List Int) (K a : Nat) : Prop := a < rs.length ∧ goodR rs sp K a = true ∧ ∀ j, j < a → goodR rs sp K j = false
theorem natsL_filter {n : Nat} {p : Nat → Bool} : ((List.range n).filter p).map (fun i : Nat => PyData.int (i : Int)) = natsL ((List.range n).filter p) := rfl
def S_next_road : SpD := fun xs P => ∃ (rs : List Road) (sp : List Int) (K a : Nat), xs = [.d (rdsD rs), .d (intL sp), .d (.int (K : Int))] ∧ IsNext rs sp K a ∧ sp.length ≤ 1000 ∧ P (.d (.int (a : Int)))
abbrev N_next_road : List Str := ["roads", "spare", "known", "at", "start", "end", "width", "full", "mask", "left"]
abbrev ps_next_road : List Str := ["roads", "spare", "known"]
theorem sc_next_road : FnScope N_next_road ps_next_road (defScope snext_road) := ⟨rfl, rfl, rfl, by decide +kernel, rfl, by decide +kernel, by decide +kernel⟩
theorem nd_next_road : N_next_road.Nodup := sc_next_road.nd
theorem bd_next_road : BindH "next_road" "next_road" ps_next_road snext_road := fun _ _ _ _ _ _ us hl => match us, hl with | [_, _, _], _ => rfl
theorem ok_next_road {P : Program} {w : World} {mg : Str → Option Value} {base : Heap} {g : Gb} (c : Txt g mg base) : FOk P w g.K mg base 2 "next_road" ps_next_road (spOf g S_next_road) := by
  have tx := txt_tx c
  refine FOk.mk' (h_next_road c) sc_next_road bd_next_road (by intro xs Q h; unfold S_next_road at h; (repeat' (rcases h with ⟨_, h⟩)); subst_vars; rfl) fun cdv A outer s H E hr => ⟨_, (pss_cons (ps_for PassesOwn.never rfl (piEnum g.K tx.enumerate (pa_cons (pv 0) pa_nil)) (pgT g.K 2 (pgs_cons (pg_name (i := 3) nd_next_road rfl (Or.inl rfl)) (pgs_cons (pgT g.K 3 (pgs_cons (pg_name (i := 4) nd_next_road rfl (Or.inr rfl)) (pgs_cons (pg_name (i := 5) nd_next_road rfl (Or.inr rfl)) (pgs_cons (pg_name (i := 6) nd_next_road rfl (Or.inl rfl)) pgs_nil)))) pgs_nil))) (pss_one (ps_if (PW.pt (pw_and (pt_cmpR op_gt (pv 6) pe_int (nomark _)) (pw_and (pt_cmpR op_eq (pe_op op_and (pe_op op_shr (pv 2) (pv 4)) pe_int) pe_int (nomark _)) (pw_and1 (pt_cmpR op_eq (pe_op op_and (pe_op op_shr (pv 2) (pv 5)) pe_int) pe_int (nomark _)))))) (pss_cons (ps_setLc (i := 7) rfl nd_next_road rfl rfl (sw_true rfl rfl rfl (by decide +kernel)) (piEnum g.K tx.enumerate (pa_cons (pv 1) pa_nil)) (blkOk_by (own := [("mask", 8), ("left", 9)]) (N := N_next_road) (sc := defScope snext_road) (by decide +kernel)) (fun _ _ _ _ _ => (pgT g.K 2 (pgs_cons (pg_name (i := 8) nd_next_road rfl (Or.inl rfl)) (pgs_cons (pg_name (i := 9) nd_next_road rfl (Or.inl rfl)) pgs_nil)))) (fun _ _ _ _ _ => (pts_one (PW.pt (pw_and (pt_cmpR op_eq (pv 9) pe_int (nomark _)) (pw_and1 (pt_val (pe_callF (ok_is_strained c) (hr.mono (by decide)) (pa_cons (pv 8) (pa_cons (pv 4) (pa_cons (pv 5) (pa_cons (pv 2) pa_nil))))))))))) (fun _ _ _ _ _ => (pv 8)))
    (pss_one (ps_if (pt_cmpR (opEqD g.K hr.units) (pv 7) (pe_lst pa_nil) (nomark _)) (pss_one (ps_ret (pv 3))) pss_nil))) pss_nil)))
    (pss_one (ps_ret pe_non))), ?_⟩
  rintro xs Q ⟨rs, sp, K, a, rfl, ⟨ha, hg, hj⟩, hl, hQ⟩
  refine st_seq (M := fun _ => False) (st_for (it_enumR (l := rs) (enc := rdD) (0, 0, 0) (ev_var rfl)) (fun _ i ρ => i ≤ a ∧ ∃ b d e f k, ρ = [some (.d (rdsD rs)), some (.d (intL sp)), some (.d (.int (K : Int))), b, d, e, f, k, none, none]) ?_ ?_ ?_) fun _ z => z.elim
  · rintro ds rfl
    exact ⟨Nat.zero_le _, none, none, none, none, none, rfl⟩
  · rintro ds i d ρ rfl hd ⟨hi, b, e, f, k, z, rfl⟩
    rw [List.getElem?_map, List.getElem?_range (by omega)] at hd
    obtain rfl : d = .tuple [.int (i : Int), rdD (rd rs i)] := (Option.some.inj hd).symm
    refine ⟨_, _, tg_tup (tgs_cons tg_d (tgs_cons (tg_tup (tgs_cons tg_d (tgs_cons tg_d (tgs_cons tg_d tgs_nil))) rfl) tgs_nil)) rfl, st_ifB ((eb_and (eb_test (ev_gt (ev_var rfl) ev_int)) fun _ => eb_and (eb_test (ev_eqN (ev_and (ev_shr (ev_var rfl) (ev_var rfl)) (ev_n 1)) (ev_n 1))) fun _ => eb_test (ev_eqN (ev_and (ev_shr (ev_var rfl) (ev_var rfl)) (ev_n 1)) (ev_n 0))).is (by rw [tb1, tb0])) (fun et => ?_) fun ef => ?_⟩
    · refine sq_set (ev_lc (l := List.range sp.length) (enc := fun m : Nat => PyData.tuple [.int (m : Int), .int (sp.getD m 0)]) (p := fun m => decide (sp.getD m 0 = 0) && strained m (rd rs i).1 (rd rs i).2.1 K) (f := fun m : Nat => PyData.int (m : Int)) (it_enumI (ev_var rfl)) (by rw [List.length_range]; omega) fun m hm => ⟨_, _, tg_tup (tgs_cons tg_d (tgs_cons tg_d tgs_nil)) rfl, by decide,
        eb_and (eb_test (ev_eqI (ev_var rfl) ev_int)) (fun _ => eb_test (ev_call (ea_cons (ev_var rfl) (ea_cons (ev_var rfl) (ea_cons (ev_var rfl) (ea_cons (ev_var rfl) ea_nil)))) ⟨_, _, _, _, rfl, rfl⟩)), fun _ => ev_var rfl⟩) ?_
      rw [natsL_filter]
      refine st_ifB (eb_test (ev_eqD (ev_var rfl) (ev_lst ed_nil) (pl_list (n := 0) (pl_nats _)).sh rfl)) (fun e2 => ?_) fun e2 => st_nx ?_
      · rw [eqv_nil] at e2
        have e3 := (natsL_nil_iff _).mp (of_decide_eq_true e2)
        have hgi : goodR rs sp K i = true := by
          unfold goodR
          rw [e3, decide_eq_true rfl, Bool.and_true]
          exact et
        have : i = a := by
          rcases Nat.lt_or_ge i a with h | h
          · rw [hj i h] at hgi
            cases hgi
          · omega
        subst this
        exact st_ret (ev_var rfl) hQ
      · refine ⟨?_, _, _, _, _, _, rfl⟩
        rcases Nat.lt_or_ge i a with h | h
        · omega
        · exfalso
          have : i = a := by omega
          subst this
          rw [eqv_nil] at e2
          have e3 := of_decide_eq_false e2
          unfold goodR at hg
          simp only [Bool.and_eq_true, decide_eq_true_eq] at hg
          exact e3 ((natsL_nil_iff _).mpr hg.2.2.2)
    · refine st_nx ⟨?_, _, _, _, _, _, rfl⟩
      rcases Nat.lt_or_ge i a with h | h
      · omega
      · exfalso
        have : i = a := by omega
        subst this
        unfold goodR at hg
        simp only [Bool.and_eq_true] at hg
        rw [hg.1, hg.2.1, hg.2.2.1] at ef
        cases ef
  · rintro ds ρ rfl ⟨hi, _⟩
    rw [List.length_map, List.length_range] at hi
    omega
def strainL (sp : List Int) (s e K : Nat) : List Int := (List.range sp.length).map fun m => sp.getD m 0 - (if strained m s e K then 1 else 0)
inductive Gn (rs : List Road) (T : Nat) : List Int → Nat → List Nat → Prop
  | done (sp : List Int) : Gn rs T sp T []
  | step {sp : List Int} {K a : Nat} {f : List Nat} : K ≠ T → IsNext rs sp K a → Gn rs T (strainL sp (rd rs a).1 (rd rs a).2.1 K) (K ||| 1 <<< (rd rs a).2.1) f → Gn rs T sp K (a :: f)
def S_grown : SpD := fun xs P => ∃ (rs : List Road) (sp : List Int) (K T : Nat) (f : List Nat), xs = [.d (rdsD rs), .d (intL sp), .d (.int (K : Int)), .d (.int (T : Int))] ∧ Gn rs T sp K f ∧ f.length ≤ 1000 ∧ (∀ r ∈ rs, r.2.1 ≤ 1000) ∧ sp.length ≤ 1000 ∧ P (.d (tupN (srtN f)))
abbrev N_grown : List Str := ["roads", "spare", "known", "target", "left", "forest", "at", "start", "end", "width", "mask", "one"]
abbrev ps_grown : List Str := ["roads", "spare", "known", "target"]
theorem sc_grown : FnScope N_grown ps_grown (defScope sgrown) := ⟨rfl, rfl, rfl, by decide +kernel, rfl, by decide +kernel, by decide +kernel⟩
theorem nd_grown : N_grown.Nodup := sc_grown.nd
theorem bd_grown : BindH "grown" "grown" ps_grown sgrown := fun _ _ _ _ _ _ us hl => match us, hl with | [_, _, _, _], _ => rfl
theorem ok_grown {P : Program} {w : World} {mg : Str → Option Value} {base : Heap} {g : Gb} (c : Txt g mg base) : FOk P w g.K mg base 3 "grown" ps_grown (spOf g S_grown) := by
  have tx := txt_tx c
  refine FOk.mk' (h_grown c) sc_grown bd_grown (by intro xs Q h; unfold S_grown at h; (repeat' (rcases h with ⟨_, h⟩)); subst_vars; rfl) fun cdv A outer s H E hr => ⟨_, (pss_cons (ps_par (i := 4) (j := 5) rfl nd_grown rfl rfl (by decide) rfl rfl (pa_cons (pe_callTy (cList g.K) (by rfl) tx.list bt_list (pa_cons (pv 1) pa_nil)) (pa_cons (pe_lst pa_nil) pa_nil)) (by rfl))
    (pss_cons (ps_while PassesOwn.never (pt_cmpR op_ne (pv 2) (pv 3) (nomark _)) (pss_cons (ps_set (i := 6) nd_grown rfl (Or.inl rfl) (pe_callF (ok_next_road c) (hr.mono (by decide)) (pa_cons (pv 0) (pa_cons (pv 4) (pa_cons (pv 2) pa_nil)))))
    (pss_cons (ps_asg (pe_ix (ixL g.K) (pv 0) (pv 6) (fun _ _ => rfl)) (pgT g.K 3 (pgs_cons (pg_name (i := 7) nd_grown rfl (Or.inr rfl)) (pgs_cons (pg_name (i := 8) nd_grown rfl (Or.inr rfl)) (pgs_cons (pg_name (i := 9) nd_grown rfl (Or.inl rfl)) pgs_nil)))))
    (pss_cons (ps_setLc (i := 4) rfl nd_grown rfl rfl (sw_true rfl rfl rfl (by decide +kernel)) (piEnum g.K tx.enumerate (pa_cons (pv 4) pa_nil)) (blkOk_by (own := [("mask", 10), ("one", 11)]) (N := N_grown) (sc := defScope sgrown) (by decide +kernel)) (fun _ _ _ _ _ => (pgT g.K 2 (pgs_cons (pg_name (i := 10) nd_grown rfl (Or.inl rfl)) (pgs_cons (pg_name (i := 11) nd_grown rfl (Or.inl rfl)) pgs_nil)))) (fun _ _ _ _ _ => pts_nil) (fun _ _ _ _ _ => (pe_op op_sub (pv 11) (pe_callTy cInt (by rfl) tx.int bt_int (pa_cons (pe_callF (ok_is_strained c) (hr.mono (by decide)) (pa_cons (pv 10) (pa_cons (pv 7) (pa_cons (pv 8) (pa_cons (pv 2) pa_nil))))) pa_nil)))))
    (pss_cons (ps_set (i := 2) nd_grown rfl (Or.inr rfl) (pe_op op_or (pv 2) (pe_op op_shl pe_int (pv 8))))
    (pss_one (ps_expr (pe_bm PySem.F.plainAttrs_list PySem.F.slot_list_append PySem.F.type_list_append mt_append (pv 5) (pa_cons (pv 6) pa_nil)))))))))
    (pss_one (ps_ret (pe_callTy (cTup g.K) (by rfl) tx.tuple bt_tuple (pa_cons (pe_callB (cSortedS g.K) (by rfl) tx.sorted bt_sorted (pa_cons (pv 5) pa_nil)) pa_nil)))))), ?_⟩
  rintro xs Q ⟨rs, sp, K, T, f, rfl, hG, hfl, hr, hl, hQ⟩
  refine sq_parL (a := .d (intL sp)) (b := .own []) (el_d (ev_listS (ev_var rfl) rfl) (el_o ew_nil el_nil)) (st_seq (M := fun ρ => ∃ a b d e k z, ρ = [some (.d (rdsD rs)), some (.d (intL sp)), k, some (.d (.int (T : Int))), e, some (.own (natsL f)), a, b, d, z, none, none]) ?_ ?_)
  · refine (st_while (fun m ρ => ∃ (pre rest : List Nat) (sp' : List Int) (K' : Nat) (a b d e : Option Dx), ρ = [some (.d (rdsD rs)), some (.d (intL sp)), some (.d (.int (K' : Int))), some (.d (.int (T : Int))), some (.d (intL sp')), some (.own (natsL pre)), a, b, d, e, none, none] ∧ f = pre ++ rest ∧ Gn rs T sp' K' rest ∧ sp'.length ≤ 1000 ∧ m = rest.length) _ ⟨[], f, sp, K, none, none, none, none, rfl, rfl, hG, hl, rfl⟩ ?_)
    rintro m ρ ⟨pre, rest, sp', K', a, b, d, e, rfl, rfl, hG', hl', rfl⟩
    refine ⟨_, eb_test (ev_neN (ev_var rfl) (ev_var rfl)), fun h1 => ?_, fun h1 => ?_⟩
    · cases hG' with
      | done => simp at h1
      | step hne hN hG2 =>
        rename_i at_ f'
        have hN1 := hN.1
        refine sq_set (ev_call (P := fun y => y = .d (.int (at_ : Int))) (ea_cons (ev_var rfl) (ea_cons (ev_var rfl) (ea_cons (ev_var rfl) ea_nil))) ⟨rs, sp', K', at_, rfl, hN, hl', rfl⟩) ?_
        refine sq_asg (P := fun y => y = .d (rdD (rd rs at_))) (ev_ixLn (ev_var rfl) (ev_var rfl) rfl (rd_getD hN1)) ?_
        rintro y rfl
        refine ⟨_, _, tg_tup (tgs_cons tg_d (tgs_cons tg_d (tgs_cons tg_d tgs_nil))) rfl, ?_⟩
        refine sq_set (x := .d (intL (strainL sp' (rd rs at_).1 (rd rs at_).2.1 K'))) ((ev_lcA (l := List.range sp'.length) (enc := fun m : Nat => PyData.tuple [.int (m : Int), .int (sp'.getD m 0)]) (f := fun m : Nat => PyData.int (sp'.getD m 0 - (if strained m (rd rs at_).1 (rd rs at_).2.1 K' then 1 else 0))) (it_enumI (ev_var rfl)) (by rw [List.length_range]; omega)
          fun m hm => ⟨_, _, tg_tup (tgs_cons tg_d (tgs_cons tg_d tgs_nil)) rfl, by decide, ev_sub (ev_var rfl) (ev_intB (ev_call (ea_cons (ev_var rfl) (ea_cons (ev_var rfl) (ea_cons (ev_var rfl) (ea_cons (ev_var rfl) ea_nil)))) ⟨_, _, _, _, rfl, rfl⟩))⟩).is (by unfold strainL intL; rw [List.map_map]; rfl)) ?_
        refine sq_set (ev_or (ev_var rfl) (ev_shl ev_int (ev_var rfl) (by have := hr _ (rd_mem hN1); omega))) ?_
        refine st_app rfl (ev_var rfl) (by rw [natsL_length]; rw [List.length_append] at hfl; omega) ⟨_, Nat.lt_succ_self _, pre ++ [at_], f', _, _, _, _, _, _, by rw [natsL_append]; rfl, by rw [List.append_assoc]; rfl, hG2, by unfold strainL; rw [List.length_map, List.length_range]; exact hl', rfl⟩
    · cases hG' with
      | done =>
        exact ⟨a, b, d, _, _, e, by rw [List.append_nil]⟩
      | step hne hN hG2 =>
        exfalso
        simp [hne] at h1
  · rintro ρ ⟨a, b, d, e, k, z, rfl⟩
    exact st_ret (ev_tupL (ev_sortedN (ev_var rfl) rfl) rfl) hQ
end TB
set_option Elab.async false
set_option linter.all false
set_option autoImplicit false
set_option maxRecDepth 100000
set_option maxHeartbeats 4000000
namespace TB
open PySem PySem.Spec PyProof.Rows L2
def manyR (rs : List Road) (f : List Nat) (s : Stm) (m : Nat) : Int := ((f.filter fun a => !m.testBit (rd rs a).1).map fun a => ((m >>> (rd rs a).2.1 &&& 1 : Nat) : Int)).sum - (if needB s m then 1 else 0)
def boundsL (rs : List Road) (sp : List Int) (s : Stm) (f : List Nat) (n : Nat) : List Int := (s.2.2 :: f.map fun a => (rd rs a).2.2) ++ ((List.range n).filter fun m => decide (0 < manyR rs f s m)).map fun m => sp.getD m 0 / manyR rs f s m
def IsMin (t : Int) (l : List Int) : Prop := t ∈ l ∧ ∀ y ∈ l, t ≤ y
theorem IsMin.uniq {t u : Int} {l : List Int} (h : IsMin t l) (h2 : IsMin u l) : t = u := Int.le_antisymm (h.2 u h2.1) (h2.2 t h.1)
def S_most_times : SpD := fun xs P => ∃ (rs : List Road) (sp : List Int) (s : Stm) (f : List Nat) (t : Int), xs = [.d (rdsD rs), .d (intL sp), .d (stD s), .d (tupN f)] ∧ IsMin t (boundsL rs sp s f sp.length) ∧ (∀ a ∈ f, a < rs.length) ∧ f.length ≤ 1000 ∧ sp.length ≤ 1000 ∧ (∀ m, m < sp.length → 0 < manyR rs f s m → CDivW (sp.getD m 0) (manyR rs f s m)) ∧ P (.d (.int t))
abbrev N_most_times : List Str := ["roads", "spare", "stream", "forest", "known", "target", "times", "bounds", "at", "mask", "left", "many"]
abbrev ps_most_times : List Str := ["roads", "spare", "stream", "forest"]
theorem sc_most_times : FnScope N_most_times ps_most_times (defScope smost_times) := ⟨rfl, rfl, rfl, by decide +kernel, rfl, by decide +kernel, by decide +kernel⟩
theorem nd_most_times : N_most_times.Nodup := sc_most_times.nd
theorem bd_most_times : BindH "most_times" "most_times" ps_most_times smost_times := fun _ _ _ _ _ _ us hl => match us, hl with | [_, _, _, _], _ => rfl
theorem ok_most_times {P : Program} {w : World} {mg : Str → Option Value} {base : Heap} {g : Gb} (c : Txt g mg base) : FOk P w g.K mg base 1 "most_times" ps_most_times (spOf g S_most_times) := by
  have tx := txt_tx c
  refine FOk.mk' (h_most_times c) sc_most_times bd_most_times (by intro xs Q h; unfold S_most_times at h; (repeat' (rcases h with ⟨_, h⟩)); subst_vars; rfl) fun cdv A outer s H E hr => ⟨_, (pss_cons (ps_asg (pv 2) (pgL g.K 3 (pgs_cons (pg_name (i := 4) nd_most_times rfl (Or.inl rfl)) (pgs_cons (pg_name (i := 5) nd_most_times rfl (Or.inl rfl)) (pgs_cons (pg_name (i := 6) nd_most_times rfl (Or.inl rfl)) pgs_nil)))))
    (pss_cons (ps_set (i := 7) nd_most_times rfl (Or.inl rfl) (pe_op op_cat (pe_lst (pa_cons (pv 6) pa_nil)) (pe_lc rfl nd_most_times (piT g.K (pv 3)) (blkOk_by (own := [("at", 8)]) (N := N_most_times) (sc := defScope smost_times) (by decide +kernel)) (fun _ _ _ _ _ => (pg_name (i := 8) nd_most_times rfl (Or.inl rfl))) (fun _ _ _ _ _ => pts_nil) (fun _ _ _ _ _ => (pe_ix (ixT g.K) (pe_ix (ixL g.K) (pv 0) (pv 8) (fun _ _ => rfl)) pe_int (fun _ _ => rfl))))))
    (pss_cons (ps_for PassesOwn.never rfl (piEnum g.K tx.enumerate (pa_cons (pv 1) pa_nil)) (pgT g.K 2 (pgs_cons (pg_name (i := 9) nd_most_times rfl (Or.inr rfl)) (pgs_cons (pg_name (i := 10) nd_most_times rfl (Or.inl rfl)) pgs_nil))) (pss_cons (ps_set (i := 11) nd_most_times rfl (Or.inl rfl) (pe_callB (cSum g.K rfl) (by rfl) tx.sum bt_sum (pa_cons (pe_lc rfl nd_most_times (piT g.K (pv 3)) (blkOk_by (own := [("at", 8)]) (N := N_most_times) (sc := defScope smost_times) (by decide +kernel)) (fun _ _ _ _ _ => (pg_name (i := 8) nd_most_times rfl (Or.inl rfl))) (fun _ _ _ _ _ => (pts_one (pt_cmpR op_eq (pe_op op_and (pe_op op_shr (pv 9) (pe_ix (ixT g.K) (pe_ix (ixL g.K) (pv 0) (pv 8) (fun _ _ => rfl)) pe_int (fun _ _ => rfl))) pe_int) pe_int (nomark _)))) (fun _ _ _ _ _ => (pe_op op_and (pe_op op_shr (pv 9) (pe_ix (ixT g.K) (pe_ix (ixL g.K) (pv 0) (pv 8) (fun _ _ => rfl)) pe_int (fun _ _ => rfl))) pe_int))) pa_nil)))
    (pss_cons (ps_aug (i := 11) nd_most_times rfl (Or.inl rfl) (pe_callTy cInt (by rfl) tx.int bt_int (pa_cons (pe_and (pe_cmpR op_eq (pe_op op_and (pv 9) (pv 4)) pe_int (nomark _)) (pe_one (pe_cmpR op_ne (pe_op op_and (pv 9) (pv 5)) pe_int (nomark _)))) pa_nil)) ip_sub)
    (pss_one (ps_if (pt_cmpR op_gt (pv 11) pe_int (nomark _)) (pss_one (ps_expr (pe_bm PySem.F.plainAttrs_list PySem.F.slot_list_append PySem.F.type_list_append mt_append (pv 7) (pa_cons (pe_op op_fdivW (pv 10) (pv 11)) pa_nil)))) pss_nil)))))
    (pss_one (ps_ret (pe_callB (cMin g.K rfl) (by rfl) tx.min bt_min (pa_cons (pv 7) pa_nil))))))), ?_⟩
  rintro xs Q ⟨rs, sp, ⟨K, T, tm⟩, f, t, rfl, ht, hf, hfl, hl, hdv, hQ⟩
  refine sq_asg (P := fun y => y = .d (stD (K, T, tm))) (ev_var rfl) ?_
  rintro y rfl
  refine ⟨_, _, tg_lst (tgs_cons tg_d (tgs_cons tg_d (tgs_cons tg_d tgs_nil))) rfl, ?_⟩
  refine sq_ownW (ew_cat (ds := [.int tm]) (es := f.map fun a => PyData.int (rd rs a).2.2) (ev_lst (ed_cons (ev_var rfl) ed_nil) (by simp)) (ev_lcA (l := f) (enc := fun a : Nat => PyData.int (a : Int)) (f := fun a : Nat => PyData.int (rd rs a).2.2) (it_tup (ev_var rfl)) (by omega) fun a ha => ⟨_, _, tg_d, by decide, ev_ixTn (ev_ixLn (ev_var rfl) (ev_var rfl) rfl (rd_getD (hf a ha))) (ev_n 2) rfl⟩) rfl rfl (by rw [List.length_map]; simp; omega)) ?_
  refine st_seq (M := fun ρ => ∃ a b d, ρ = [some (.d (rdsD rs)), some (.d (intL sp)), some (.d (stD (K, T, tm))), some (.d (tupN f)), some (.d (.int (K : Int))), some (.d (.int (T : Int))), some (.d (.int tm)), some (.own ((boundsL rs sp (K, T, tm) f sp.length).map .int)), none, a, b, d]) ?_ ?_
  · refine st_for (it_enumI (ev_var rfl)) (fun _ i ρ => ∃ acc a b d, acc = (boundsL rs sp (K, T, tm) f i).map PyData.int ∧ ρ = [some (.d (rdsD rs)), some (.d (intL sp)), some (.d (stD (K, T, tm))), some (.d (tupN f)), some (.d (.int (K : Int))), some (.d (.int (T : Int))), some (.d (.int tm)), some (.own acc), none, a, b, d]) ?_ ?_ ?_
    · rintro ds rfl
      refine ⟨_, none, none, none, ?_, rfl⟩
      unfold boundsL
      rw [List.range_zero, List.filter_nil, List.map_nil, List.append_nil, List.map_cons, List.map_map]
      rfl
    · rintro ds i d ρ rfl hd ⟨acc, a, b, e, hacc, rfl⟩
      rw [List.getElem?_map] at hd
      by_cases hi : i < sp.length
      · rw [List.getElem?_range hi] at hd
        obtain rfl : d = .tuple [.int (i : Int), .int (sp.getD i 0)] := (Option.some.inj hd).symm
        refine ⟨_, _, tg_tup (tgs_cons tg_d (tgs_cons tg_d tgs_nil)) rfl, ?_⟩
        have hal : acc.length ≤ 2001 + i := by
          rw [hacc, List.length_map]
          unfold boundsL
          have := List.length_filter_le (fun m => decide (0 < manyR rs f (K, T, tm) m)) (List.range i)
          rw [List.length_range] at this
          rw [List.length_append, List.length_cons, List.length_map, List.length_map]
          omega
        have hbs : boundsL rs sp (K, T, tm) f (i + 1) = boundsL rs sp (K, T, tm) f i ++ (if 0 < manyR rs f (K, T, tm) i then [sp.getD i 0 / manyR rs f (K, T, tm) i] else []) := by
          unfold boundsL
          rw [List.range_succ, List.filter_append, List.map_append, List.append_assoc]
          congr 2
          by_cases h : 0 < manyR rs f (K, T, tm) i
          · rw [if_pos h, List.filter_cons, if_pos (decide_eq_true h)]
            rfl
          · rw [if_neg h, List.filter_cons, if_neg (by simpa using h)]
            rfl
        refine sq_set (ev_sum (ev_lc (l := f) (enc := fun a : Nat => PyData.int (a : Int)) (p := fun a => !i.testBit (rd rs a).1) (f := fun a : Nat => PyData.int ((i >>> (rd rs a).2.1 &&& 1 : Nat) : Int)) (it_tup (ev_var rfl)) (by omega) fun a ha => ⟨_, _, tg_d, by decide,
            (eb_test (ev_eqN (ev_and (ev_shr (ev_var rfl) (ev_ixTn (ev_ixLn (ev_var rfl) (ev_var rfl) rfl (rd_getD (hf a ha))) (ev_n 0) rfl)) (ev_n 1)) (ev_n 0))).is (tb0 _ _), fun _ => ev_and (ev_shr (ev_var rfl) (ev_ixTn (ev_ixLn (ev_var rfl) (ev_var rfl) rfl (rd_getD (hf a ha))) (ev_n 1) rfl)) (ev_n 1)⟩) (ns := (f.filter fun a => !i.testBit (rd rs a).1).map fun a => ((i >>> (rd rs a).2.1 &&& 1 : Nat) : Int)) (by rw [List.map_map]; rfl)) ?_
        refine sq_augI rfl (ev_intB (ev_andV (ev_eqN (ev_and (ev_var rfl) (ev_var rfl)) (ev_n 0)) fun _ => ev_neN (ev_and (ev_var rfl) (ev_var rfl)) (ev_n 0))) ?_
        show StP g _ [_, _, _, _, _, _, _, _, _, _, _, some (.d (.int (manyR rs f (K, T, tm) i)))] _
        refine st_ifB (eb_test (ev_gt (ev_var rfl) ev_int)) (fun h => ?_) fun h => ?_
        · have hm := of_decide_eq_true h
          refine st_app rfl (ev_fdivW (ev_var rfl) (ev_var rfl) (hdv i hi hm)) (by omega) ⟨_, _, _, _, ?_, rfl⟩
          rw [hbs, if_pos hm, List.map_append, hacc]
          rfl
        · have hm := of_decide_eq_false h
          refine st_nx ⟨_, _, _, _, ?_, rfl⟩
          rw [hbs, if_neg hm, List.append_nil, hacc]
      · rw [List.getElem?_eq_none (by rw [List.length_range]; omega)] at hd
        cases hd
    · rintro ds ρ rfl ⟨acc, a, b, d, hacc, rfl⟩
      refine ⟨a, b, d, ?_⟩
      rw [hacc, List.length_map, List.length_range]
  · rintro ρ ⟨a, b, d, rfl⟩
    · refine st_retP ((evp_min (ev_var rfl) rfl (by unfold boundsL; simp) fun m h1 h2 => ?_).imp fun x hx => hx)
      refine ⟨rfl, ?_⟩
      rw [IsMin.uniq ⟨h1, h2⟩ ht]
      exact hQ
end TB
set_option Elab.async false
set_option linter.all false
set_option autoImplicit false
set_option maxRecDepth 100000
set_option maxHeartbeats 4000000
namespace TB
open PySem PySem.Spec PyProof.Rows L2
theorem zipD_map {α β : Type} (f : α → PyData) (k : β → PyData) : ∀ (a : List α) (b : List β), zipD (a.map f) (b.map k) = (List.zip a b).map fun p => PyData.tuple [f p.1, k p.2]
  | [], _ => by simp [zipD]
  | _ :: _, [] => by simp [zipD]
  | x :: a, y :: b => by
    have := zipD_map f k a b
    unfold zipD at this ⊢
    rw [List.map_cons, List.map_cons, List.zipWith_cons_cons, this]
    rfl
theorem it_zipM {g : Gb} {ta tb : TE} {ρ : Rho} {K : PySem.W.Frag} {α β : Type} {a : List α} {b : List β} {f : α → PyData} {k : β → PyData} (h : Ev g ta ρ (.d (.list (a.map f)))) (h2 : Ev g tb ρ (.d (.list (b.map k)))) : ItP g (iZip K (tCons ta (tCons tb tNil))) ρ (fun y => y = (List.zip a b).map fun p => PyData.tuple [f p.1, k p.2]) := by
  rw [← zipD_map]
  exact it_zip h h2
theorem LotOk.nd {h : Nat} {l : List Nat} (x : LotOk h l) : l.Nodup := x.2.1.imp fun h => Nat.ne_of_lt h
theorem LotOk.v6 {h : Nat} {l : List Nat} (x : LotOk h l) (hh : h ≤ 6) : ∀ v ∈ l, v < 6 := fun v hv => by
  have := x.2.2 v hv
  omega
theorem LotOk.len {h : Nat} {l : List Nat} (x : LotOk h l) (hh : h ≤ 6) : l.length ≤ 6 := nodup_leN x.nd (x.v6 hh)
theorem led_len (es : List (Nat × Nat)) (hs : List Nat) : (led es hs).length ≤ 6 := by
  have := nodup_leN ((led_lt es hs).imp fun h => Nat.ne_of_lt h) fun v hv => (mem_led.mp hv).1
  exact this
theorem NewsOk.lot {h : Nat} {rs : List Road} {ms : List Msg} (n : NewsOk h rs ms) {a : Nat} (ha : a < ms.length) : LotOk h (md ms a).1 := (n.msg _ (md_mem ha)).1
def bits (K : List Nat) : Nat := maskOf K
noncomputable def streamsOf (rs : List Road) (ms : List Msg) : List Stm := (List.range ms.length).map fun n => (maskOf (md ms n).1, maskOf (heardL rs (md ms n).1), (md ms n).2)
theorem mask_call {g : Gb} {te : TE} {ρ : Rho} {d : PyData} {l : List Nat} (h : Ev g te ρ (.d d)) (hd : isS (.d d) = some (natsL l)) (hv : ∀ v ∈ l, v < 6) (hl : l.length ≤ 1000) : Ev g (tCall (spOf g S_mask_of) [] E0 (tCons te tNil)) ρ (.d (.int (maskOf l : Int))) :=
  ev_call (ea_cons h ea_nil) ⟨d, l, rfl, hd, fun v x => by have := hv v x; omega, hl, rfl⟩
def S_streams_of : SpD := fun xs P => ∃ (h : Nat) (rs : List Road) (ms : List Msg), xs = [newsX h rs ms] ∧ NewsOk h rs ms ∧ P (.d (stsD (streamsOf rs ms)))
abbrev N_streams_of : List Str := ["news", "found", "number", "knowing", "pieces"]
abbrev ps_streams_of : List Str := ["news"]
theorem sc_streams_of : FnScope N_streams_of ps_streams_of (defScope sstreams_of) := ⟨rfl, rfl, rfl, by decide +kernel, rfl, by decide +kernel, by decide +kernel⟩
theorem nd_streams_of : N_streams_of.Nodup := sc_streams_of.nd
theorem bd_streams_of : BindH "streams_of" "streams_of" ps_streams_of sstreams_of := fun _ _ _ _ _ _ us hl => match us, hl with | [_], _ => rfl
theorem ok_streams_of {P : Program} {w : World} {mg : Str → Option Value} {base : Heap} {g : Gb} (c : Txt g mg base) : FOk P w g.K mg base 2 "streams_of" ps_streams_of (spOf g S_streams_of) := by
  have tx := txt_tx c
  refine FOk.mk' (h_streams_of c) sc_streams_of bd_streams_of (by intro xs Q h; unfold S_streams_of at h; (repeat' (rcases h with ⟨_, h⟩)); subst_vars; rfl) fun cdv A outer s H E hr => ⟨_, (pss_cons (ps_set (i := 1) nd_streams_of rfl (Or.inl rfl) (pe_lst pa_nil))
    (pss_cons (ps_for PassesOwn.never rfl (piEnum g.K tx.enumerate (pa_cons (peMeth0 g.K (ok_News_messages c) (hr.mono (by decide)) (pv 0)) pa_nil)) (pgT g.K 2 (pgs_cons (pg_name (i := 2) nd_streams_of rfl (Or.inl rfl)) (pgs_cons (pgT g.K 2 (pgs_cons (pg_name (i := 3) nd_streams_of rfl (Or.inl rfl)) (pgs_cons (pg_name (i := 4) nd_streams_of rfl (Or.inl rfl)) pgs_nil))) pgs_nil))) (pss_one (ps_expr (pe_bm PySem.F.plainAttrs_list PySem.F.slot_list_append PySem.F.type_list_append mt_append (pv 1) (pa_cons (pe_lst (pa_cons (pe_callF (ok_mask_of c) (hr.mono (by decide)) (pa_cons (pv 3) pa_nil)) (pa_cons (pe_callF (ok_mask_of c) (hr.mono (by decide)) (pa_cons (peMeth g.K (ok_News_hearing c) (hr.mono (by decide)) (pv 0) (pa_cons (pv 2) pa_nil)) pa_nil)) (pa_cons (pv 4) pa_nil)))) pa_nil)))))
    (pss_one (ps_ret (pv 1))))), ?_⟩
  rintro xs Q ⟨h, rs, ms, rfl, ok, hQ⟩
  have hh := ok.net.h6
  refine sq_own (st_seq (M := fun ρ => ∃ a b d, ρ = [some (newsX h rs ms), some (.own ((streamsOf rs ms).map stD)), a, b, d]) (st_for (it_enumR (l := ms) (enc := msgD) ([], 0) (news_messages (h := h) (rs := rdsL rs) (ms := ms.map msgD) (ev_var rfl)))
    (fun _ i ρ => ∃ acc a b d, acc = ((List.range i).map fun n => (maskOf (md ms n).1, maskOf (heardL rs (md ms n).1), (md ms n).2)).map stD ∧ ρ = [some (newsX h rs ms), some (.own acc), a, b, d]) ?_ ?_ ?_) ?_)
  · rintro ds rfl
    exact ⟨_, none, none, none, rfl, rfl⟩
  · rintro ds i d ρ rfl hd ⟨acc, a, b, e, hacc, rfl⟩
    rw [List.getElem?_map] at hd
    by_cases hi : i < ms.length
    · rw [List.getElem?_range hi] at hd
      obtain rfl : d = .tuple [.int (i : Int), msgD (md ms i)] := (Option.some.inj hd).symm
      have hlot := ok.lot hi
      refine ⟨_, _, tg_tup (tgs_cons tg_d (tgs_cons (tg_tup (tgs_cons tg_d (tgs_cons tg_d tgs_nil)) rfl) tgs_nil)) rfl, ?_⟩
      refine st_app rfl (ev_lst (ds := [.int (maskOf (md ms i).1 : Int), .int (maskOf (heardL rs (md ms i).1) : Int), .int (md ms i).2]) (ea_cons (mask_call (ev_var rfl) rfl (hlot.v6 hh) (by have := hlot.len hh; omega)) (ea_cons (mask_call (news_hearing (h := h) (rs := rs) (ms := ms) (ev_var rfl) (ev_var rfl) hi) rfl (fun v hv => (mem_led.mp hv).1) (by have := led_len (pos rs) (md ms i).1; unfold heardL; omega)) (ea_cons (ev_var rfl) ea_nil))) (by simp)) (by rw [hacc, List.length_map, List.length_map, List.length_range]; have := ok.few; omega) ⟨_, _, _, _, ?_, rfl⟩
      rw [hacc, List.range_succ, List.map_append, List.map_append]
      rfl
    · rw [List.getElem?_eq_none (by rw [List.length_range]; omega)] at hd
      cases hd
  · rintro ds ρ rfl ⟨acc, a, b, d, hacc, rfl⟩
    refine ⟨a, b, d, ?_⟩
    rw [hacc, List.length_map, List.length_range]
    rfl
  · rintro ρ ⟨a, b, d, rfl⟩
    exact st_retOwn rfl hQ
noncomputable def streamsLeft (rs : List Road) (ms : List Msg) (B : List Ent) : List Stm := (B.map fun e => (maskOf (md ms e.1).1 ||| maskOf (ends rs e.2.1), maskOf (heardL rs (md ms e.1).1), e.2.2)) ++ (List.range ms.length).map fun n => (maskOf (md ms n).1, maskOf (heardL rs (md ms n).1), (md ms n).2 - sumOf B n)
theorem ends_nats {rs : List Road} {row : List Nat} : (row.map fun a => PyData.int ((rd rs a).2.1 : Int)) = natsL (ends rs row) := by
  unfold natsL ends
  rw [List.map_map]
  rfl
theorem ev_ends {g : Gb} {tl : TE} {ρ : Rho} {K : PySem.W.Frag} {rs : List Road} {row : List Nat} {i j : Nat} (hr : ρ[i]? = some (some (.d (rdsD rs)))) (hv : Ev g tl ρ (.d (tupN row))) (hij : i ≠ j) (hj : j < ρ.length) (hlt : ∀ a ∈ row, a < rs.length) (hl : row.length ≤ 1000) :
    Ev g (tLc (iTup K tl) (gName j) tYes (tOp (rIxT K) (tOp (rIxL K) (tVar i) (tVar j)) (tC (.int 1))) [j]) ρ (.d (listN (ends rs row))) := by
  refine (ev_lcA (l := row) (enc := fun a : Nat => PyData.int (a : Int)) (f := fun a : Nat => PyData.int ((rd rs a).2.1 : Int)) (it_tup hv) (by omega) fun a ha => ⟨_, _, tg_d, by intro x hx; exact hx, ?_⟩).is (by rw [ends_nats]; rfl)
  have e1 : ((wipeR ρ [j]).set j (some (.d (.int (a : Int)))))[i]? = some (some (.d (rdsD rs))) := by
    rw [List.getElem?_set_ne (Ne.symm hij)]
    show ((wipeR ρ []).set j none)[i]? = _
    rw [List.getElem?_set_ne (Ne.symm hij)]
    exact hr
  have e2 : ((wipeR ρ [j]).set j (some (.d (.int (a : Int)))))[j]? = some (some (.d (.int (a : Int)))) := by
    rw [List.getElem?_set_self (by rw [wipeR_length]; exact hj)]
  exact ev_ixTn (ds := [.int ((rd rs a).1 : Int), .int ((rd rs a).2.1 : Int), .int (rd rs a).2.2]) (ev_ixLn (ev_var e1) (ev_var e2) rfl (rd_getD (hlt a ha))) (ev_n 1) rfl
def S_streams_left : SpD := fun xs P => ∃ (h : Nat) (rs : List Road) (ms : List Msg) (B : List Ent), xs = [newsX h rs ms, .d (entsD B)] ∧ NewsOk h rs ms ∧ BegOk rs ms B ∧ P (.d (stsD (streamsLeft rs ms B)))
theorem ev_knowing {g : Gb} {ta tb : TE} {ρ : Rho} {K : PySem.W.Frag} {h : Nat} {rs : List Road} {ms : List Msg} {n : Nat} (ha : Ev g ta ρ (newsX h rs ms)) (hb : Ev g tb ρ (.d (.int (n : Int)))) (hn : n < ms.length) : Ev g (tOp (rIxT K) (tOp (rIxL K) (tMeth (He.ga g.K "News") "messages" (spOf g S_News_messages) [] E0 ta tNil) tb) (tC (.int 0))) ρ (.d (tupN (md ms n).1)) :=
  ev_ixTn (ds := [tupN (md ms n).1, .int (md ms n).2]) (ev_ixLn (news_messages (h := h) (rs := rdsL rs) (ms := ms.map msgD) ha) hb rfl (md_getD hn)) (ev_n 0) rfl
abbrev N_streams_left : List Str := ["news", "begun", "roads", "found", "number", "some", "times", "known", "road", "sums", "knowing", "pieces"]
abbrev ps_streams_left : List Str := ["news", "begun"]
theorem sc_streams_left : FnScope N_streams_left ps_streams_left (defScope sstreams_left) := ⟨rfl, rfl, rfl, by decide +kernel, rfl, by decide +kernel, by decide +kernel⟩
theorem nd_streams_left : N_streams_left.Nodup := sc_streams_left.nd
theorem bd_streams_left : BindH "streams_left" "streams_left" ps_streams_left sstreams_left := fun _ _ _ _ _ _ us hl => match us, hl with | [_, _], _ => rfl
theorem ok_streams_left {P : Program} {w : World} {mg : Str → Option Value} {base : Heap} {g : Gb} (c : Txt g mg base) : FOk P w g.K mg base 4 "streams_left" ps_streams_left (spOf g S_streams_left) := by
  have tx := txt_tx c
  refine FOk.mk' (h_streams_left c) sc_streams_left bd_streams_left (by intro xs Q h; unfold S_streams_left at h; (repeat' (rcases h with ⟨_, h⟩)); subst_vars; rfl) fun cdv A outer s H E hr => ⟨_, (pss_cons (ps_asg (pe_tup (pa_cons (peMeth0 g.K (ok_Net_roads c) (hr.mono (by decide)) (peFld g.K (pv 0))) (pa_cons (pe_lst pa_nil) pa_nil))) (pgT g.K 2 (pgs_cons (pg_name (i := 2) nd_streams_left rfl (Or.inr rfl)) (pgs_cons (pg_name (i := 3) nd_streams_left rfl (Or.inl rfl)) pgs_nil))))
    (pss_cons (ps_for PassesOwn.never rfl (piL g.K (pv 1)) (pgT g.K 3 (pgs_cons (pg_name (i := 4) nd_streams_left rfl (Or.inl rfl)) (pgs_cons (pg_name (i := 5) nd_streams_left rfl (Or.inl rfl)) (pgs_cons (pg_name (i := 6) nd_streams_left rfl (Or.inl rfl)) pgs_nil)))) (pss_cons (ps_set (i := 7) nd_streams_left rfl (Or.inl rfl) (pe_op op_or (pe_callF (ok_mask_of c) (hr.mono (by decide)) (pa_cons (pe_ix (ixT g.K) (pe_ix (ixL g.K) (peMeth0 g.K (ok_News_messages c) (hr.mono (by decide)) (pv 0)) (pv 4) (fun _ _ => rfl)) pe_int (fun _ _ => rfl)) pa_nil)) (pe_callF (ok_mask_of c) (hr.mono (by decide)) (pa_cons (pe_lc rfl nd_streams_left (piT g.K (pv 5)) (blkOk_by (own := [("road", 8)]) (N := N_streams_left) (sc := defScope sstreams_left) (by decide +kernel)) (fun _ _ _ _ _ => (pg_name (i := 8) nd_streams_left rfl (Or.inl rfl))) (fun _ _ _ _ _ => pts_nil) (fun _ _ _ _ _ => (pe_ix (ixT g.K) (pe_ix (ixL g.K) (pv 2) (pv 8) (fun _ _ => rfl)) pe_int (fun _ _ => rfl)))) pa_nil))))
    (pss_one (ps_expr (pe_bm PySem.F.plainAttrs_list PySem.F.slot_list_append PySem.F.type_list_append mt_append (pv 3) (pa_cons (pe_lst (pa_cons (pv 7) (pa_cons (pe_callF (ok_mask_of c) (hr.mono (by decide)) (pa_cons (peMeth g.K (ok_News_hearing c) (hr.mono (by decide)) (pv 0) (pa_cons (pv 4) pa_nil)) pa_nil)) (pa_cons (pv 6) pa_nil)))) pa_nil))))))
    (pss_cons (ps_set (i := 9) nd_streams_left rfl (Or.inl rfl) (pe_callF (ok_sums_of c) (hr.mono (by decide)) (pa_cons (pv 0) (pa_cons (pv 1) pa_nil))))
    (pss_cons (ps_for PassesOwn.never rfl (piEnum g.K tx.enumerate (pa_cons (peMeth0 g.K (ok_News_messages c) (hr.mono (by decide)) (pv 0)) pa_nil)) (pgT g.K 2 (pgs_cons (pg_name (i := 4) nd_streams_left rfl (Or.inl rfl)) (pgs_cons (pgT g.K 2 (pgs_cons (pg_name (i := 10) nd_streams_left rfl (Or.inl rfl)) (pgs_cons (pg_name (i := 11) nd_streams_left rfl (Or.inl rfl)) pgs_nil))) pgs_nil))) (pss_one (ps_expr (pe_bm PySem.F.plainAttrs_list PySem.F.slot_list_append PySem.F.type_list_append mt_append (pv 3) (pa_cons (pe_lst (pa_cons (pe_callF (ok_mask_of c) (hr.mono (by decide)) (pa_cons (pv 10) pa_nil)) (pa_cons (pe_callF (ok_mask_of c) (hr.mono (by decide)) (pa_cons (peMeth g.K (ok_News_hearing c) (hr.mono (by decide)) (pv 0) (pa_cons (pv 4) pa_nil)) pa_nil)) (pa_cons (pe_op op_sub (pv 11) (pe_ix (ixL g.K) (pv 9) (pv 4) (fun _ _ => rfl))) pa_nil)))) pa_nil)))))
    (pss_one (ps_ret (pv 3))))))), ?_⟩
  rintro xs Q ⟨h, rs, ms, B, rfl, ok, bo, hQ⟩
  have hh := ok.net.h6
  have hrl := ok.net.many
  refine sq_tup2 (a := .d (rdsD rs)) (b := .own []) (el_d (news_net_roads c (rs := rdsL rs) (ev_var rfl)) (el_o ew_nil el_nil)) ?_
  refine st_seq (M := fun ρ => ∃ a b d e f, ρ = [some (newsX h rs ms), some (.d (entsD B)), some (.d (rdsD rs)), some (.own ((B.map fun e => ((maskOf (md ms e.1).1 ||| maskOf (ends rs e.2.1), maskOf (heardL rs (md ms e.1).1), e.2.2) : Stm)).map stD)), a, b, d, e, f, none, none, none]) (st_for (it_list (ev_var rfl))
    (fun _ i ρ => ∃ acc a b d e f, acc = ((B.take i).map fun e => ((maskOf (md ms e.1).1 ||| maskOf (ends rs e.2.1), maskOf (heardL rs (md ms e.1).1), e.2.2) : Stm)).map stD ∧ ρ = [some (newsX h rs ms), some (.d (entsD B)), some (.d (rdsD rs)), some (.own acc), a, b, d, e, f, none, none, none]) ?_ ?_ ?_) ?_
  · rintro ds rfl
    exact ⟨_, none, none, none, none, none, rfl, rfl⟩
  · rintro ds i d ρ rfl hd ⟨acc, a, b, e, f, k, hacc, rfl⟩
    rw [List.getElem?_map] at hd
    cases hs : B[i]? with
    | none => rw [hs] at hd; cases hd
    | some x =>
      rw [hs] at hd
      obtain ⟨n, row, t⟩ := x
      cases hd
      obtain ⟨⟨hn, ht⟩, hrow, hled⟩ := bo.ent _ (List.mem_of_getElem? hs)
      dsimp only at hn hrow hled
      have hlot := ok.lot hn
      have hrl2 : row.length ≤ rs.length := hrow.len
      refine ⟨_, _, tg_tup (tgs_cons tg_d (tgs_cons tg_d (tgs_cons tg_d tgs_nil))) rfl, ?_⟩
      refine sq_set (ev_or (mask_call (ev_knowing (h := h) (rs := rs) (ms := ms) (n := n) (ev_var rfl) (ev_var rfl) hn) rfl (hlot.v6 hh) (by have := hlot.len hh; omega)) (mask_call (l := ends rs row) (ev_ends rfl (ev_var rfl) (by decide) (by simp) (fun a ha => (hrow.2 a ha).1) (by show row.length ≤ 1000; omega)) rfl (fun v hv => ?_) (by unfold ends; rw [List.length_map]; omega))) ?_
      · unfold ends at hv
        obtain ⟨a, ha, rfl⟩ := List.mem_map.mp hv
        exact ok.net.r6 _ (rd_mem (hrow.2 a ha).1)
      · refine st_app rfl (ev_lst (ds := [.int ((maskOf (md ms n).1 ||| maskOf (ends rs row) : Nat) : Int), .int (maskOf (heardL rs (md ms n).1) : Int), .int t]) (ea_cons (ev_var rfl) (ea_cons (mask_call (news_hearing (h := h) (rs := rs) (ms := ms) (ev_var rfl) (ev_var rfl) hn) rfl (fun v hv => (mem_led.mp hv).1) (by have := led_len (pos rs) (md ms n).1; unfold heardL; omega)) (ea_cons (ev_var rfl) ea_nil))) (by simp)) ?_ ⟨_, _, _, _, _, _, ?_, rfl⟩
        · rw [hacc, List.length_map, List.length_map, List.length_take]
          have := bo.few
          omega
        · rw [hacc, List.take_add_one, hs, List.map_append, List.map_append]
          rfl
  · rintro ds ρ rfl ⟨acc, a, b, d, e, f, hacc, rfl⟩
    refine ⟨a, b, d, e, f, ?_⟩
    rw [hacc, List.length_map, List.take_length]
  · rintro ρ ⟨a, b, d, e, f, rfl⟩
    refine sq_set (ev_call (P := fun y => y = .d (intL ((List.range ms.length).map (sumOf B)))) (ea_cons (ev_var rfl) (ea_cons (ev_var rfl) ea_nil)) ⟨h, rs, ms, B, rfl, ok.few, by have := bo.few; omega, rfl⟩) ?_
    refine st_seq (M := fun ρ => ∃ a b d e f k l, ρ = [some (newsX h rs ms), some (.d (entsD B)), some (.d (rdsD rs)), some (.own ((streamsLeft rs ms B).map stD)), a, b, d, e, f, some (.d (intL ((List.range ms.length).map (sumOf B)))), k, l]) (st_for (it_enumR (l := ms) (enc := msgD) ([], 0) (news_messages (h := h) (rs := rdsL rs) (ms := ms.map msgD) (ev_var rfl)))
      (fun _ i ρ => ∃ acc a b d e f k l, acc = ((B.map fun e => ((maskOf (md ms e.1).1 ||| maskOf (ends rs e.2.1), maskOf (heardL rs (md ms e.1).1), e.2.2) : Stm)) ++ (List.range i).map fun n => ((maskOf (md ms n).1, maskOf (heardL rs (md ms n).1), (md ms n).2 - sumOf B n) : Stm)).map stD ∧ ρ = [some (newsX h rs ms), some (.d (entsD B)), some (.d (rdsD rs)), some (.own acc), a, b, d, e, f, some (.d (intL ((List.range ms.length).map (sumOf B)))), k, l]) ?_ ?_ ?_) ?_
    · rintro ds rfl
      refine ⟨_, _, _, _, _, _, _, _, ?_, rfl⟩
      rw [List.range_zero, List.map_nil, List.append_nil]
    · rintro ds i d' ρ rfl hd ⟨acc, a', b', d2, e', f', k', l', hacc, rfl⟩
      rw [List.getElem?_map] at hd
      by_cases hi : i < ms.length
      · rw [List.getElem?_range hi] at hd
        obtain rfl : d' = .tuple [.int (i : Int), msgD (md ms i)] := (Option.some.inj hd).symm
        have hlot := ok.lot hi
        refine ⟨_, _, tg_tup (tgs_cons tg_d (tgs_cons (tg_tup (tgs_cons tg_d (tgs_cons tg_d tgs_nil)) rfl) tgs_nil)) rfl, ?_⟩
        refine st_app rfl (ev_lst (ds := [.int (maskOf (md ms i).1 : Int), .int (maskOf (heardL rs (md ms i).1) : Int), .int ((md ms i).2 - sumOf B i)]) (ea_cons (mask_call (ev_var rfl) rfl (hlot.v6 hh) (by have := hlot.len hh; omega)) (ea_cons (mask_call (news_hearing (h := h) (rs := rs) (ms := ms) (ev_var rfl) (ev_var rfl) hi) rfl (fun v hv => (mem_led.mp hv).1) (by have := led_len (pos rs) (md ms i).1; unfold heardL; omega))
          (ea_cons (ev_sub (ev_var rfl) (ev_ixLn (ev_var rfl) (ev_var rfl) rfl (by rw [List.map_map, List.getElem?_map, List.getElem?_range hi]; rfl))) ea_nil))) (by simp)) ?_ ⟨_, _, _, _, _, _, _, _, ?_, rfl⟩
        · rw [hacc, List.length_map, List.length_append, List.length_map, List.length_map, List.length_range]
          have := ok.few
          have := bo.few
          omega
        · rw [hacc, List.range_succ, List.map_append, List.map_append, List.map_append, List.map_append, List.append_assoc]
          rfl
      · rw [List.getElem?_eq_none (by rw [List.length_range]; omega)] at hd
        cases hd
    · rintro ds ρ rfl ⟨acc, a, b, d, e, f, k, l, hacc, rfl⟩
      refine ⟨a, b, d, e, f, k, l, ?_⟩
      rw [hacc, List.length_map, List.length_range]
      rfl
    · rintro ρ ⟨a, b, d, e, f, k, l, rfl⟩
      exact st_retOwn rfl hQ
end TB
set_option Elab.async false
set_option linter.all false
set_option autoImplicit false
set_option maxRecDepth 100000
set_option maxHeartbeats 4000000
namespace TB
open PySem PySem.Spec PyProof.Rows L2
theorem reach_pos {rs : List Road} {K row : List Nat} (hr : RowOk rs row) {v : Nat} (r : Reach (eds rs row) K v) : Reach (pos rs) K v := by
  induction r with
  | base h => exact .base h
  | step h _ ih =>
    obtain ⟨a, ha, e⟩ := List.mem_map.mp h
    refine .step ?_ ih
    unfold pos
    rw [List.mem_map]
    exact ⟨rd rs a, List.mem_filter.mpr ⟨rd_mem (hr.2 a ha).1, decide_eq_true (hr.2 a ha).2⟩, e⟩
theorem reach_in {rs : List Road} {K row : List Nat} {v : Nat} (r : Reach (eds rs row) K v) : v ∈ K ∨ v ∈ ends rs row := by
  cases r with
  | base h => exact .inl h
  | step h _ =>
    obtain ⟨a, ha, e⟩ := List.mem_map.mp h
    refine .inr (List.mem_map.mpr ⟨a, ha, ?_⟩)
    exact congrArg Prod.snd e
theorem ends6 {h : Nat} {rs : List Road} (n : NetOk h rs) {row : List Nat} (hr : RowOk rs row) : ∀ v ∈ ends rs row, v < 6 := fun v hv => by
  obtain ⟨a, ha, rfl⟩ := List.mem_map.mp hv
  exact n.r6 _ (rd_mem (hr.2 a ha).1)
theorem led_row {h : Nat} {rs : List Road} (n : NetOk h rs) {K row : List Nat} (hK : LotOk h K) (hr : RowOk rs row) (hl : LedOk rs K row) {v : Nat} : v ∈ led (eds rs row) K ↔ v ∈ K ∨ v ∈ ends rs row := by
  rw [mem_led]
  constructor
  · exact fun z => reach_in z.2
  · rintro (z | z)
    · exact ⟨hK.v6 n.h6 v z, .base z⟩
    · exact ⟨ends6 n hr v z, hl.2.2 v z⟩
theorem ForOk.ends_iff {h : Nat} {rs : List Road} (n : NetOk h rs) {K row : List Nat} (f : ForOk rs K row) {v : Nat} : v ∈ ends rs row ↔ v ∈ heardL rs K ∧ v ∉ K := by
  constructor
  · exact fun z => ⟨mem_led.mpr ⟨ends6 n f.1 v z, reach_pos f.1 (f.2.1.2.2 v z)⟩, f.2.1.2.1 v z⟩
  · rintro ⟨z1, z2⟩
    exact (f.2.2 v z1).resolve_left z2
theorem ForOk.led_eq {h : Nat} {rs : List Road} (n : NetOk h rs) {K row : List Nat} (hK : LotOk h K) (f : ForOk rs K row) : led (eds rs row) K = heardL rs K := lt_sortedN_eq (led_lt _ _) (led_lt _ _) fun v => by
  rw [led_row n hK f.1 f.2.1]
  constructor
  · rintro (z | z)
    · exact mem_led.mpr ⟨hK.v6 n.h6 v z, .base z⟩
    · exact ((ForOk.ends_iff n f).mp z).1
  · exact fun z => f.2.2 v z
theorem filter_nats {l : List Nat} {p : Nat → Bool} : (l.filter p).map (fun n : Nat => PyData.int (n : Int)) = natsL (l.filter p) := rfl
def S_is_forest : SpD := fun xs P => ∃ (h : Nat) (rs : List Road) (ms : List Msg) (n : Nat) (row : List Nat), xs = [newsX h rs ms, .d (.int (n : Int)), .d (tupN row)] ∧ NewsOk h rs ms ∧ n < ms.length ∧ ForOk rs (md ms n).1 row ∧ P (.d (.bool true))
theorem led_call {g : Gb} {ta tb tc : TE} {ρ : Rho} {h : Nat} {rs : List Road} {K row : List Nat} {dn dh : PyData} (n : NetOk h rs) (ha : Ev g ta ρ (.d (rdsD rs))) (hb : Ev g tb ρ (.d dn)) (hc : Ev g tc ρ (.d dh)) (h1 : isS (.d dn) = some (natsL row)) (h2 : isS (.d dh) = some (natsL K)) (hr : RowOk rs row) (hK : LotOk h K) : Ev g (tCall (spOf g S_led_to) [] E0 (tCons ta (tCons tb (tCons tc tNil)))) ρ (.d (listN (led (eds rs row) K))) :=
  ev_call (ea_cons ha (ea_cons hb (ea_cons hc ea_nil))) ⟨rs, dn, row, dh, K, rfl, h1, h2, fun a ha => (hr.2 a ha).1, n.r6, hK.nd, hK.v6 n.h6, by have := hr.len; have := n.many; omega, rfl⟩
theorem row_call {g : Gb} {ta tb : TE} {ρ : Rho} {h : Nat} {rs : List Road} {row : List Nat} (n : NetOk h rs) (ha : Ev g ta ρ (.d (rdsD rs))) (hb : Ev g tb ρ (.d (tupN row))) (hr : RowOk rs row) : Ev g (tCall (spOf g S_is_row) [] E0 (tCons ta (tCons tb tNil))) ρ (.d (.bool true)) :=
  ev_call (ea_cons ha (ea_cons hb ea_nil)) ⟨rs, row, rfl, hr, n.many, rfl⟩
abbrev N_is_forest : List Str := ["news", "number", "value", "roads", "knowing", "due", "house", "road"]
abbrev ps_is_forest : List Str := ["news", "number", "value"]
theorem sc_is_forest : FnScope N_is_forest ps_is_forest (defScope sis_forest) := ⟨rfl, rfl, rfl, by decide +kernel, rfl, by decide +kernel, by decide +kernel⟩
theorem nd_is_forest : N_is_forest.Nodup := sc_is_forest.nd
theorem bd_is_forest : BindH "is_forest" "is_forest" ps_is_forest sis_forest := fun _ _ _ _ _ _ us hl => match us, hl with | [_, _, _], _ => rfl
theorem ok_is_forest {P : Program} {w : World} {mg : Str → Option Value} {base : Heap} {g : Gb} (c : Txt g mg base) : FOk P w g.K mg base 5 "is_forest" ps_is_forest (spOf g S_is_forest) := by
  have tx := txt_tx c
  refine FOk.mk' (h_is_forest c) sc_is_forest bd_is_forest (by intro xs Q h; unfold S_is_forest at h; (repeat' (rcases h with ⟨_, h⟩)); subst_vars; rfl) fun cdv A outer s H E hr => ⟨_, (pss_cons (ps_asg (pe_tup (pa_cons (peMeth0 g.K (ok_Net_roads c) (hr.mono (by decide)) (peFld g.K (pv 0))) (pa_cons (pe_ix (ixT g.K) (pe_ix (ixL g.K) (peMeth0 g.K (ok_News_messages c) (hr.mono (by decide)) (pv 0)) (pv 1) (fun _ _ => rfl)) pe_int (fun _ _ => rfl)) pa_nil))) (pgT g.K 2 (pgs_cons (pg_name (i := 3) nd_is_forest rfl (Or.inr rfl)) (pgs_cons (pg_name (i := 4) nd_is_forest rfl (Or.inr rfl)) pgs_nil))))
    (pss_cons (ps_if (pt_not (pt_val (pe_callF (ok_is_row c) (hr.mono (by decide)) (pa_cons (pv 3) (pa_cons (pv 2) pa_nil))))) (pss_one (ps_ret pe_bl)) pss_nil)
    (pss_cons (ps_setLc (i := 5) rfl nd_is_forest rfl rfl (sw_true rfl rfl rfl (by decide +kernel)) (piT g.K (peMeth g.K (ok_News_hearing c) (hr.mono (by decide)) (pv 0) (pa_cons (pv 1) pa_nil))) (blkOk_by (own := [("house", 6)]) (N := N_is_forest) (sc := defScope sis_forest) (by decide +kernel)) (fun _ _ _ _ _ => (pg_name (i := 6) nd_is_forest rfl (Or.inl rfl))) (fun _ _ _ _ _ => (pts_one (pt_cmpR (opNIn g.K) (pv 6) (pv 4) (by rfl)))) (fun _ _ _ _ _ => (pv 6)))
    (pss_cons (ps_if (pt_cmpR (opNeD g.K hr.units) (pe_callB (cSortedS g.K) (by rfl) tx.sorted bt_sorted (pa_cons (pe_lc rfl nd_is_forest (piT g.K (pv 2)) (blkOk_by (own := [("road", 7)]) (N := N_is_forest) (sc := defScope sis_forest) (by decide +kernel)) (fun _ _ _ _ _ => (pg_name (i := 7) nd_is_forest rfl (Or.inl rfl))) (fun _ _ _ _ _ => pts_nil) (fun _ _ _ _ _ => (pe_ix (ixT g.K) (pe_ix (ixL g.K) (pv 3) (pv 7) (fun _ _ => rfl)) pe_int (fun _ _ => rfl)))) pa_nil)) (pv 5) (nomark _)) (pss_one (ps_ret pe_bl)) pss_nil)
    (pss_one (ps_ret (pe_cmpR (opEqD g.K hr.units) (pe_callTy (cTup g.K) (by rfl) tx.tuple bt_tuple (pa_cons (pe_callF (ok_led_to c) (hr.mono (by decide)) (pa_cons (pv 3) (pa_cons (pv 2) (pa_cons (pv 4) pa_nil)))) pa_nil)) (peMeth g.K (ok_News_hearing c) (hr.mono (by decide)) (pv 0) (pa_cons (pv 1) pa_nil)) (nomark _)))))))), ?_⟩
  rintro xs Q ⟨h, rs, ms, n, row, rfl, ok, hn, hf, hQ⟩
  have hlot := ok.lot hn
  have hrl : row.length ≤ rs.length := hf.1.len
  have hrm := ok.net.many
  have hll : (heardL rs (md ms n).1).length ≤ 6 := led_len _ _
  refine sq_tup2 (a := .d (rdsD rs)) (b := .d (tupN (md ms n).1)) (el_d (news_net_roads c (rs := rdsL rs) (ev_var rfl)) (el_d (ev_knowing (h := h) (rs := rs) (ms := ms) (n := n) (ev_var rfl) (ev_var rfl) hn) el_nil)) ?_
  refine sq_no (eb_not (eb_test (row_call ok.net (ev_var rfl) (ev_var rfl) hf.1))) rfl ?_
  refine sq_set (ev_lc (l := heardL rs (md ms n).1) (enc := fun v : Nat => PyData.int (v : Int)) (p := fun v => !decide (v ∈ (md ms n).1)) (f := fun v : Nat => PyData.int (v : Int)) (it_tup (news_hearing (h := h) (rs := rs) (ms := ms) (ev_var rfl) (ev_var rfl) hn)) (by omega) fun v hv => ⟨_, _, tg_d, by decide, eb_test (ev_ninN (ev_var rfl) (ev_var rfl) rfl), fun _ => ev_var rfl⟩) ?_
  rw [filter_nats]
  have es : srtN (ends rs row) = (heardL rs (md ms n).1).filter fun v => !decide (v ∈ (md ms n).1) := srtN_is hf.2.1.1 ((led_lt _ _).filter _) fun v => by
    rw [ForOk.ends_iff ok.net hf, List.mem_filter]
    simp
  refine sq_no (eb_test (ev_neD (ev_sortedN (ev_ends rfl (ev_var rfl) (by decide) (by simp [startR]) (fun a ha => (hf.1.2 a ha).1) (by omega)) rfl) (ev_var rfl) (pl_list (n := 0) (pl_nats _)).sh (pl_list (n := 0) (pl_nats _)).sh)) (by rw [es, eqv_listN]; simp) ?_
  refine st_ret (ev_eqD (ev_tupL (led_call ok.net (ev_var rfl) (ev_var rfl) (ev_var rfl) rfl rfl hf.1 hlot) rfl) (news_hearing (h := h) (rs := rs) (ms := ms) (ev_var rfl) (ev_var rfl) hn) (pl_tupN _).sh (pl_tupN _).sh) ?_
  rw [ForOk.led_eq ok.net hlot hf]
  show Q (.d (.bool (PyData.eqv (tupN _) (tupN _))))
  rw [eqv_tupN, decide_eq_true rfl]
  exact hQ
theorem ev_allT {g : Gb} {wi : TI} {tg : TG} {te : TE} {vs : List Nat} {ρ : Rho} {K : PySem.W.Frag} {α : Type} {l : List α} {enc : α → PyData} (hw : ItP g wi ρ (fun y => y = l.map enc)) (hlen : l.length ≤ 1000000)
    (hs : ∀ a ∈ l, ∃ js ρ1, TgP g tg (wipeR ρ vs) (.d (enc a)) js ρ1 ∧ (∀ j ∈ js, j ∈ vs) ∧ Ev g te ρ1 (.d (.bool true))) : Ev g (tCB (rAll K) (tCons (tLc wi tg tYes te vs) tNil)) ρ (.d (.bool true)) :=
  (ev_all (ev_lcA hw hlen hs) (bs := l.map fun _ => true) (by rw [List.map_map]; rfl)).is (by rw [all_of fun _ _ => rfl])
def S_is_plan : SpD := fun xs P => ∃ (h : Nat) (rs : List Road) (ms : List Msg) (es : List Ent), xs = [newsX h rs ms, .d (entsD es)] ∧ NewsOk h rs ms ∧ PlanOk rs ms es ∧ es.length ≤ 100000 ∧ P (.d (.bool true))
theorem sums_call {g : Gb} {ta tb : TE} {ρ : Rho} {h : Nat} {rs : List Road} {ms : List Msg} {es : List Ent} (ha : Ev g ta ρ (newsX h rs ms)) (hb : Ev g tb ρ (.d (entsD es))) (hm : ms.length ≤ 3) (hl : es.length ≤ 1000000) : Ev g (tCall (spOf g S_sums_of) [] E0 (tCons ta (tCons tb tNil))) ρ (.d (intL ((List.range ms.length).map (sumOf es)))) := ev_call (ea_cons ha (ea_cons hb ea_nil)) ⟨h, rs, ms, es, rfl, hm, hl, rfl⟩
theorem pl_intL {n : Nat} (l : List Int) : Pl (n + 1) (intL l) := pl_list (pl_ints l)
abbrev N_is_plan : List Str := ["news", "value", "one", "number", "forest", "times", "knowing", "pieces"]
abbrev ps_is_plan : List Str := ["news", "value"]
theorem sc_is_plan : FnScope N_is_plan ps_is_plan (defScope sis_plan) := ⟨rfl, rfl, rfl, by decide +kernel, rfl, by decide +kernel, by decide +kernel⟩
theorem nd_is_plan : N_is_plan.Nodup := sc_is_plan.nd
theorem bd_is_plan : BindH "is_plan" "is_plan" ps_is_plan sis_plan := fun _ _ _ _ _ _ us hl => match us, hl with | [_, _], _ => rfl
theorem ok_is_plan {P : Program} {w : World} {mg : Str → Option Value} {base : Heap} {g : Gb} (c : Txt g mg base) : FOk P w g.K mg base 6 "is_plan" ps_is_plan (spOf g S_is_plan) := by
  have tx := txt_tx c
  refine FOk.mk' (h_is_plan c) sc_is_plan bd_is_plan (by intro xs Q h; unfold S_is_plan at h; (repeat' (rcases h with ⟨_, h⟩)); subst_vars; rfl) fun cdv A outer s H E hr => ⟨_, (pss_cons (ps_if (PW.pt (pw_or (pt_not (pt_val (pe_callB (cIsi g.K) (by rfl) tx.isinstance bt_isinstance (pa_cons (pv 1) (pa_cons (pe_bltn (v := .ty "list") (by rfl) tx.list bt_list rfl) pa_nil))))) (pw_or1 (pt_not (pt_val (pe_callB (cAll g.K rfl) (by rfl) tx.all bt_all (pa_cons (pe_lc rfl nd_is_plan (piL g.K (pv 1)) (blkOk_by (own := [("one", 2)]) (N := N_is_plan) (sc := defScope sis_plan) (by decide +kernel)) (fun _ _ _ _ _ => (pg_name (i := 2) nd_is_plan rfl (Or.inl rfl))) (fun _ _ _ _ _ => pts_nil) (fun _ _ _ _ _ => (pe_callF (ok_is_entry c) (hr.mono (by decide)) (pa_cons (pv 0) (pa_cons (pv 2) pa_nil))))) pa_nil))))))) (pss_one (ps_ret pe_bl)) pss_nil)
    (pss_cons (ps_if (pt_not (pt_val (pe_callB (cAll g.K rfl) (by rfl) tx.all bt_all (pa_cons (pe_lc rfl nd_is_plan (piL g.K (pv 1)) (blkOk_by (own := [("number", 3), ("forest", 4), ("times", 5)]) (N := N_is_plan) (sc := defScope sis_plan) (by decide +kernel)) (fun _ _ _ _ _ => (pgT g.K 3 (pgs_cons (pg_name (i := 3) nd_is_plan rfl (Or.inl rfl)) (pgs_cons (pg_name (i := 4) nd_is_plan rfl (Or.inl rfl)) (pgs_cons (pg_name (i := 5) nd_is_plan rfl (Or.inl rfl)) pgs_nil))))) (fun _ _ _ _ _ => pts_nil) (fun _ _ _ _ _ => (pe_callF (ok_is_forest c) (hr.mono (by decide)) (pa_cons (pv 0) (pa_cons (pv 3) (pa_cons (pv 4) pa_nil)))))) pa_nil)))) (pss_one (ps_ret pe_bl)) pss_nil)
    (pss_one (ps_ret (pe_and (pe_callF (ok_fits c) (hr.mono (by decide)) (pa_cons (pv 0) (pa_cons (pv 1) pa_nil))) (pe_one (pe_cmpR (opEqD g.K hr.units) (pe_callF (ok_sums_of c) (hr.mono (by decide)) (pa_cons (pv 0) (pa_cons (pv 1) pa_nil))) (pe_lc rfl nd_is_plan (piL g.K (peMeth0 g.K (ok_News_messages c) (hr.mono (by decide)) (pv 0))) (blkOk_by (own := [("knowing", 6), ("pieces", 7)]) (N := N_is_plan) (sc := defScope sis_plan) (by decide +kernel)) (fun _ _ _ _ _ => (pgT g.K 2 (pgs_cons (pg_name (i := 6) nd_is_plan rfl (Or.inl rfl)) (pgs_cons (pg_name (i := 7) nd_is_plan rfl (Or.inl rfl)) pgs_nil)))) (fun _ _ _ _ _ => pts_nil) (fun _ _ _ _ _ => (pv 7))) (nomark _)))))))), ?_⟩
  rintro xs Q ⟨h, rs, ms, es, rfl, ok, po, hl, hQ⟩
  refine sq_no (eb_or (eb_not (eb_test (ev_isi (ev_var rfl) rfl rfl))) fun _ => eb_not (eb_test (ev_allT (l := es) (enc := entD) (it_list (ev_var rfl)) (by omega) fun e he => ⟨_, _, tg_d, by decide, ev_call (ea_cons (ev_var rfl) (ea_cons (ev_var rfl) ea_nil)) ⟨h, rs, ms, e, rfl, (po.ent e he).1, rfl⟩⟩))) rfl ?_
  refine sq_no (eb_not (eb_test (ev_allT (l := es) (enc := entD) (it_list (ev_var rfl)) (by omega) fun e he => ⟨_, _, tg_tup (tgs_cons tg_d (tgs_cons tg_d (tgs_cons tg_d tgs_nil))) rfl, by decide, ev_call (ea_cons (ev_var rfl) (ea_cons (ev_var rfl) (ea_cons (ev_var rfl) ea_nil))) ⟨h, rs, ms, e.1, e.2.1, rfl, ok, (po.ent e he).1.1, (po.ent e he).2, rfl⟩⟩))) rfl ?_
  refine st_ret (ev_andV (ev_call (ea_cons (ev_var rfl) (ea_cons (ev_var rfl) ea_nil)) ⟨h, rs, ms, es, rfl, po.bear, by omega, rfl⟩) fun _ => ev_eqD (sums_call (h := h) (rs := rs) (ms := ms) (es := es) (ev_var rfl) (ev_var rfl) ok.few (by omega)) ((ev_lcA (l := ms) (enc := msgD) (f := fun m : Msg => PyData.int m.2) (it_list (news_messages (h := h) (rs := rdsL rs) (ms := ms.map msgD) (ev_var rfl))) (by have := ok.few; omega) fun m hm => ⟨_, _, tg_tup (tgs_cons tg_d (tgs_cons tg_d tgs_nil)) rfl, by decide, ev_var rfl⟩).is (y := .d (intL (ms.map fun m => m.2))) (by unfold intL; rw [List.map_map]; rfl)) (pl_intL (n := 0) _).sh (pl_intL (n := 0) _).sh) ?_
  have e1 : (List.range ms.length).map (sumOf es) = ms.map fun m => m.2 := by
    have := congrArg (List.map fun m : Msg => m.2) (range_md ms)
    rw [List.map_map] at this
    rw [← this]
    exact List.map_congr_left fun n hn => po.sums n (List.mem_range.mp hn)
  rw [e1, eqv_intL, decide_eq_true rfl]
  exact hQ
def S_is_part : SpD := fun xs P => ∃ (h : Nat) (rs : List Road) (ms : List Msg) (n : Nat) (row : List Nat), xs = [newsX h rs ms, .d (.int (n : Int)), .d (tupN row)] ∧ NewsOk h rs ms ∧ n < ms.length ∧ RowOk rs row ∧ LedOk rs (md ms n).1 row ∧ P (.d (.bool true))
abbrev N_is_part : List Str := ["news", "number", "value", "roads", "knowing", "ends", "road", "end"]
abbrev ps_is_part : List Str := ["news", "number", "value"]
theorem sc_is_part : FnScope N_is_part ps_is_part (defScope sis_part) := ⟨rfl, rfl, rfl, by decide +kernel, rfl, by decide +kernel, by decide +kernel⟩
theorem nd_is_part : N_is_part.Nodup := sc_is_part.nd
theorem bd_is_part : BindH "is_part" "is_part" ps_is_part sis_part := fun _ _ _ _ _ _ us hl => match us, hl with | [_, _, _], _ => rfl
theorem ok_is_part {P : Program} {w : World} {mg : Str → Option Value} {base : Heap} {g : Gb} (c : Txt g mg base) : FOk P w g.K mg base 5 "is_part" ps_is_part (spOf g S_is_part) := by
  have tx := txt_tx c
  refine FOk.mk' (h_is_part c) sc_is_part bd_is_part (by intro xs Q h; unfold S_is_part at h; (repeat' (rcases h with ⟨_, h⟩)); subst_vars; rfl) fun cdv A outer s H E hr => ⟨_, (pss_cons (ps_asg (pe_tup (pa_cons (peMeth0 g.K (ok_Net_roads c) (hr.mono (by decide)) (peFld g.K (pv 0))) (pa_cons (pe_ix (ixT g.K) (pe_ix (ixL g.K) (peMeth0 g.K (ok_News_messages c) (hr.mono (by decide)) (pv 0)) (pv 1) (fun _ _ => rfl)) pe_int (fun _ _ => rfl)) pa_nil))) (pgT g.K 2 (pgs_cons (pg_name (i := 3) nd_is_part rfl (Or.inr rfl)) (pgs_cons (pg_name (i := 4) nd_is_part rfl (Or.inr rfl)) pgs_nil))))
    (pss_cons (ps_if (pt_not (pt_val (pe_callF (ok_is_row c) (hr.mono (by decide)) (pa_cons (pv 3) (pa_cons (pv 2) pa_nil))))) (pss_one (ps_ret pe_bl)) pss_nil)
    (pss_cons (ps_setLc (i := 5) rfl nd_is_part rfl rfl (sw_true rfl rfl rfl (by decide +kernel)) (piT g.K (pv 2)) (blkOk_by (own := [("road", 6)]) (N := N_is_part) (sc := defScope sis_part) (by decide +kernel)) (fun _ _ _ _ _ => (pg_name (i := 6) nd_is_part rfl (Or.inl rfl))) (fun _ _ _ _ _ => pts_nil) (fun _ _ _ _ _ => (pe_ix (ixT g.K) (pe_ix (ixL g.K) (pv 3) (pv 6) (fun _ _ => rfl)) pe_int (fun _ _ => rfl))))
    (pss_cons (ps_if (PW.pt (pw_or (pt_cmpR op_ne (pe_lenSetS g.K (by rfl) tx.len (by rfl) tx.set (pv 5)) (pe_callB (cLen g.K) (by rfl) tx.len bt_len (pa_cons (pv 5) pa_nil)) (nomark _)) (pw_or1 (pt_val (pe_callB (cAny g.K rfl) (by rfl) tx.any bt_any (pa_cons (pe_lc rfl nd_is_part (piL g.K (pv 5)) (blkOk_by (own := [("end", 7)]) (N := N_is_part) (sc := defScope sis_part) (by decide +kernel)) (fun _ _ _ _ _ => (pg_name (i := 7) nd_is_part rfl (Or.inl rfl))) (fun _ _ _ _ _ => pts_nil) (fun _ _ _ _ _ => (pe_cmpR (opIn g.K) (pv 7) (pv 4) (by rfl)))) pa_nil)))))) (pss_one (ps_ret pe_bl)) pss_nil)
    (pss_one (ps_ret (pe_cmpR op_eq (pe_callB (cLen g.K) (by rfl) tx.len bt_len (pa_cons (pe_callF (ok_led_to c) (hr.mono (by decide)) (pa_cons (pv 3) (pa_cons (pv 2) (pa_cons (pv 4) pa_nil)))) pa_nil)) (pe_op op_add (pe_callB (cLen g.K) (by rfl) tx.len bt_len (pa_cons (pv 4) pa_nil)) (pe_callB (cLen g.K) (by rfl) tx.len bt_len (pa_cons (pv 5) pa_nil))) (nomark _)))))))), ?_⟩
  rintro xs Q ⟨h, rs, ms, n, row, rfl, ok, hn, hr, hle, hQ⟩
  have hlot := ok.lot hn
  have hrl : row.length ≤ rs.length := hr.len
  have hrm := ok.net.many
  have hel : (ends rs row).length ≤ 12 := by unfold ends; rw [List.length_map]; omega
  refine sq_tup2 (a := .d (rdsD rs)) (b := .d (tupN (md ms n).1)) (el_d (news_net_roads c (rs := rdsL rs) (ev_var rfl)) (el_d (ev_knowing (h := h) (rs := rs) (ms := ms) (n := n) (ev_var rfl) (ev_var rfl) hn) el_nil)) ?_
  refine sq_no (eb_not (eb_test (row_call ok.net (ev_var rfl) (ev_var rfl) hr))) rfl ?_
  refine sq_set (ev_ends rfl (ev_var rfl) (by decide) (by simp [startR]) (fun a ha => (hr.2 a ha).1) (by omega)) ?_
  refine sq_no (eb_or (eb_test (ev_neN (ev_lenSetN (ev_var rfl) rfl hle.1 (by omega)) ((ev_len (ev_var rfl) rfl).is (by rw [natsL_length])))) fun _ => eb_test (ev_any (ev_lcA (l := ends rs row) (enc := fun v : Nat => PyData.int (v : Int)) (f := fun v : Nat => PyData.bool (decide (v ∈ (md ms n).1))) (it_list (ev_var rfl)) (by omega) fun v hv => ⟨_, _, tg_d, by decide, ev_inN (ev_var rfl) (ev_var rfl) rfl⟩) (bs := (ends rs row).map fun v => decide (v ∈ (md ms n).1)) (by rw [List.map_map]; rfl))) ?_ ?_
  · rw [decide_eq_true rfl, List.any_map]
    show ((ends rs row).any fun v => decide (v ∈ (md ms n).1)) = false
    rw [List.any_eq_false]
    intro v hv
    simpa using hle.2.1 v hv
  · refine st_ret (ev_eqN ((ev_len (led_call ok.net (ev_var rfl) (ev_var rfl) (ev_var rfl) rfl rfl hr hlot) rfl).is (by rw [natsL_length])) ((ev_add ((ev_len (ev_var rfl) rfl).is (by rw [natsL_length])) ((ev_len (ev_var rfl) rfl).is (by rw [natsL_length]))).is (y := .d (.int (((md ms n).1.length + (ends rs row).length : Nat) : Int))) (by rw [Int.natCast_add]))) ?_
    have pm : (led (eds rs row) (md ms n).1).Perm ((md ms n).1 ++ ends rs row) := by
      refine (List.perm_ext_iff_of_nodup ((led_lt _ _).imp fun h => Nat.ne_of_lt h) ?_).mpr fun v => ?_
      · exact List.nodup_append.mpr ⟨hlot.nd, hle.1, fun a ha b hb e => hle.2.1 b hb (by rw [← e]; exact ha)⟩
      · rw [led_row ok.net hlot hr hle, List.mem_append]
    rw [pm.length_eq, List.length_append, decide_eq_true rfl]
    exact hQ
def S_is_begun : SpD := fun xs P => ∃ (h : Nat) (rs : List Road) (ms : List Msg) (B : List Ent), xs = [newsX h rs ms, .d (entsD B)] ∧ NewsOk h rs ms ∧ BegOk rs ms B ∧ P (.d (.bool true))
abbrev N_is_begun : List Str := ["news", "value", "one", "number", "roads", "times", "sums", "sums_all"]
abbrev ps_is_begun : List Str := ["news", "value"]
theorem sc_is_begun : FnScope N_is_begun ps_is_begun (defScope sis_begun) := ⟨rfl, rfl, rfl, by decide +kernel, rfl, by decide +kernel, by decide +kernel⟩
theorem nd_is_begun : N_is_begun.Nodup := sc_is_begun.nd
theorem bd_is_begun : BindH "is_begun" "is_begun" ps_is_begun sis_begun := fun _ _ _ _ _ _ us hl => match us, hl with | [_, _], _ => rfl
theorem ok_is_begun {P : Program} {w : World} {mg : Str → Option Value} {base : Heap} {g : Gb} (c : Txt g mg base) : FOk P w g.K mg base 6 "is_begun" ps_is_begun (spOf g S_is_begun) := by
  have tx := txt_tx c
  obtain ⟨_, kk_MOST_BEGUN⟩ := k_MOST_BEGUN c
  refine FOk.mk' (h_is_begun c) sc_is_begun bd_is_begun (by intro xs Q h; unfold S_is_begun at h; (repeat' (rcases h with ⟨_, h⟩)); subst_vars; rfl) fun cdv A outer s H E hr => ⟨_, (pss_cons (ps_if (PW.pt (pw_or (pt_not (pt_val (pe_callB (cIsi g.K) (by rfl) tx.isinstance bt_isinstance (pa_cons (pv 1) (pa_cons (pe_bltn (v := .ty "list") (by rfl) tx.list bt_list rfl) pa_nil))))) (pw_or (pt_cmpR op_gt (pe_callB (cLen g.K) (by rfl) tx.len bt_len (pa_cons (pv 1) pa_nil)) (pe_glob (v := .int 6) rfl kk_MOST_BEGUN ⟨_, rfl⟩) (nomark _)) (pw_or1 (pt_not (pt_val (pe_callB (cAll g.K rfl) (by rfl) tx.all bt_all (pa_cons (pe_lc rfl nd_is_begun (piL g.K (pv 1)) (blkOk_by (own := [("one", 2)]) (N := N_is_begun) (sc := defScope sis_begun) (by decide +kernel)) (fun _ _ _ _ _ => (pg_name (i := 2) nd_is_begun rfl (Or.inl rfl))) (fun _ _ _ _ _ => pts_nil) (fun _ _ _ _ _ => (pe_callF (ok_is_entry c) (hr.mono (by decide)) (pa_cons (pv 0) (pa_cons (pv 2) pa_nil))))) pa_nil)))))))) (pss_one (ps_ret pe_bl)) pss_nil)
    (pss_cons (ps_if (pt_not (pt_val (pe_callB (cAll g.K rfl) (by rfl) tx.all bt_all (pa_cons (pe_lc rfl nd_is_begun (piL g.K (pv 1)) (blkOk_by (own := [("number", 3), ("roads", 4), ("times", 5)]) (N := N_is_begun) (sc := defScope sis_begun) (by decide +kernel)) (fun _ _ _ _ _ => (pgT g.K 3 (pgs_cons (pg_name (i := 3) nd_is_begun rfl (Or.inl rfl)) (pgs_cons (pg_name (i := 4) nd_is_begun rfl (Or.inl rfl)) (pgs_cons (pg_name (i := 5) nd_is_begun rfl (Or.inl rfl)) pgs_nil))))) (fun _ _ _ _ _ => pts_nil) (fun _ _ _ _ _ => (pe_callF (ok_is_part c) (hr.mono (by decide)) (pa_cons (pv 0) (pa_cons (pv 3) (pa_cons (pv 4) pa_nil)))))) pa_nil)))) (pss_one (ps_ret pe_bl)) pss_nil)
    (pss_cons (ps_set (i := 6) nd_is_begun rfl (Or.inl rfl) (pe_callF (ok_sums_of c) (hr.mono (by decide)) (pa_cons (pv 0) (pa_cons (pv 1) pa_nil))))
    (pss_one (ps_ret (pe_and (pe_callF (ok_fits c) (hr.mono (by decide)) (pa_cons (pv 0) (pa_cons (pv 1) pa_nil))) (pe_one (pe_callB (cAll g.K rfl) (by rfl) tx.all bt_all (pa_cons (pe_lc rfl nd_is_begun (piZip g.K tx.zip (pa_cons (pv 6) (pa_cons (pe_callF (ok_pieces_of c) (hr.mono (by decide)) (pa_cons (pv 0) pa_nil)) pa_nil))) (blkOk_by (own := [("one", 2), ("sums_all", 7)]) (N := N_is_begun) (sc := defScope sis_begun) (by decide +kernel)) (fun _ _ _ _ _ => (pgT g.K 2 (pgs_cons (pg_name (i := 2) nd_is_begun rfl (Or.inl rfl)) (pgs_cons (pg_name (i := 7) nd_is_begun rfl (Or.inl rfl)) pgs_nil)))) (fun _ _ _ _ _ => pts_nil) (fun _ _ _ _ _ => (pe_cmpR op_le (pv 2) (pv 7) (nomark _)))) pa_nil))))))))), ?_⟩
  rintro xs Q ⟨h, rs, ms, B, rfl, ok, bo, hQ⟩
  have hb := bo.few
  refine sq_no (eb_or (eb_not (eb_test (ev_isi (ev_var rfl) rfl rfl))) fun _ => eb_or (eb_test (ev_gt (ev_len (ev_var rfl) rfl) ev_k)) fun _ => eb_not (eb_test (ev_allT (l := B) (enc := entD) (it_list (ev_var rfl)) (by omega) fun e he => ⟨_, _, tg_d, by decide, ev_call (ea_cons (ev_var rfl) (ea_cons (ev_var rfl) ea_nil)) ⟨h, rs, ms, e, rfl, (bo.ent e he).1, rfl⟩⟩))) (by simp; omega) ?_
  refine sq_no (eb_not (eb_test (ev_allT (l := B) (enc := entD) (it_list (ev_var rfl)) (by omega) fun e he => ⟨_, _, tg_tup (tgs_cons tg_d (tgs_cons tg_d (tgs_cons tg_d tgs_nil))) rfl, by decide, ev_call (ea_cons (ev_var rfl) (ea_cons (ev_var rfl) (ea_cons (ev_var rfl) ea_nil))) ⟨h, rs, ms, e.1, e.2.1, rfl, ok, (bo.ent e he).1.1, (bo.ent e he).2.1, (bo.ent e he).2.2, rfl⟩⟩))) rfl ?_
  refine sq_set (sums_call (h := h) (rs := rs) (ms := ms) (es := B) (ev_var rfl) (ev_var rfl) ok.few (by omega)) ?_
  refine st_ret (ev_andV (ev_call (ea_cons (ev_var rfl) (ea_cons (ev_var rfl) ea_nil)) ⟨h, rs, ms, B, rfl, bo.bear, by omega, rfl⟩) fun _ => ev_all (ev_lcA (l := List.zip ((List.range ms.length).map (sumOf B)) (ms.map fun m => m.2)) (enc := fun p : Int × Int => PyData.tuple [.int p.1, .int p.2]) (f := fun p : Int × Int => PyData.bool (decide (p.1 ≤ p.2))) (it_zipM (f := PyData.int) (k := PyData.int) (ev_var rfl) (ev_call (P := fun y => y = .d (intL (ms.map fun m => m.2))) (ea_cons (ev_var rfl) ea_nil) ⟨h, rs, ms, rfl, ok.few, rfl⟩)) ?_ fun p hp => ⟨_, _, tg_tup (tgs_cons tg_d (tgs_cons tg_d tgs_nil)) rfl, by decide, ev_le (ev_var rfl) (ev_var rfl)⟩) (bs := (List.zip ((List.range ms.length).map (sumOf B)) (ms.map fun m => m.2)).map fun p => decide (p.1 ≤ p.2)) (by rw [List.map_map]; rfl)) ?_
  · rw [List.length_zip, List.length_map, List.length_map, List.length_range]
    have := ok.few
    omega
  · rw [all_of fun p hp => ?_]
    · exact hQ
    · obtain ⟨i, hi⟩ := List.mem_iff_getElem?.mp hp
      rw [List.getElem?_zip_eq_some] at hi
      obtain ⟨h1, h2⟩ := hi
      rw [List.getElem?_map] at h1 h2
      by_cases hl : i < ms.length
      · rw [List.getElem?_range hl] at h1
        rw [md_get hl] at h2
        have e1 : p.1 = sumOf B i := (Option.some.inj h1).symm
        have e2 : p.2 = (md ms i).2 := (Option.some.inj h2).symm
        rw [e1, e2]
        exact decide_eq_true (bo.sums i hl)
      · rw [List.getElem?_eq_none (by rw [List.length_range]; omega)] at h1
        cases h1
def S_is_part_finished : SpD := fun xs P => ∃ (h : Nat) (rs : List Road) (ms : List Msg) (e : Ent) (rows : List Rwx), xs = [newsX h rs ms, .d (entD e), .d (rowsD rows)] ∧ NewsOk h rs ms ∧ e.1 < ms.length ∧ (∀ r ∈ rows, 1 ≤ r.2 ∧ ForOk rs (md ms e.1).1 r.1 ∧ ∀ a ∈ e.2.1, a ∈ r.1) ∧ e.2.1.length ≤ 1000 ∧ rows.length ≤ 100000 ∧ (rows.map fun r => r.2).sum = e.2.2 ∧ P (.d (.bool true))
abbrev N_is_part_finished : List Str := ["news", "entry", "rows", "number", "some", "times", "row", "road", "forest", "many"]
abbrev ps_is_part_finished : List Str := ["news", "entry", "rows"]
theorem sc_is_part_finished : FnScope N_is_part_finished ps_is_part_finished (defScope sis_part_finished) := ⟨rfl, rfl, rfl, by decide +kernel, rfl, by decide +kernel, by decide +kernel⟩
theorem nd_is_part_finished : N_is_part_finished.Nodup := sc_is_part_finished.nd
theorem bd_is_part_finished : BindH "is_part_finished" "is_part_finished" ps_is_part_finished sis_part_finished := fun _ _ _ _ _ _ us hl => match us, hl with | [_, _, _], _ => rfl
theorem ok_is_part_finished {P : Program} {w : World} {mg : Str → Option Value} {base : Heap} {g : Gb} (c : Txt g mg base) : FOk P w g.K mg base 6 "is_part_finished" ps_is_part_finished (spOf g S_is_part_finished) := by
  have tx := txt_tx c
  refine FOk.mk' (h_is_part_finished c) sc_is_part_finished bd_is_part_finished (by intro xs Q h; unfold S_is_part_finished at h; (repeat' (rcases h with ⟨_, h⟩)); subst_vars; rfl) fun cdv A outer s H E hr => ⟨_, (pss_cons (ps_asg (pv 1) (pgT g.K 3 (pgs_cons (pg_name (i := 3) nd_is_part_finished rfl (Or.inl rfl)) (pgs_cons (pg_name (i := 4) nd_is_part_finished rfl (Or.inl rfl)) (pgs_cons (pg_name (i := 5) nd_is_part_finished rfl (Or.inl rfl)) pgs_nil)))))
    (pss_cons (ps_if (pt_not (pt_val (pe_callB (cIsi g.K) (by rfl) tx.isinstance bt_isinstance (pa_cons (pv 2) (pa_cons (pe_bltn (v := .ty "list") (by rfl) tx.list bt_list rfl) pa_nil))))) (pss_one (ps_ret pe_bl)) pss_nil)
    (pss_cons (ps_for PassesOwn.never rfl (piL g.K (pv 2)) (pg_name (i := 6) nd_is_part_finished rfl (Or.inr rfl)) (pss_cons (ps_if (PW.pt (pw_or (pt_not (pt_val (pe_callB (cIsi g.K) (by rfl) tx.isinstance bt_isinstance (pa_cons (pv 6) (pa_cons (pe_bltn (v := .ty "tuple") (by rfl) tx.tuple bt_tuple rfl) pa_nil))))) (pw_or (pt_cmpR op_ne (pe_callB (cLen g.K) (by rfl) tx.len bt_len (pa_cons (pv 6) pa_nil)) pe_int (nomark _)) (pw_or1 (pt_not (pt_val (pe_callF (ok_is_count c) (hr.mono (by decide)) (pa_cons (pe_ix (ixT g.K) (pv 6) pe_int (fun _ _ => rfl)) pa_nil)))))))) (pss_one (ps_ret pe_bl)) pss_nil)
    (pss_one (ps_if (PW.pt (pw_or (pt_not (pt_val (pe_callF (ok_is_forest c) (hr.mono (by decide)) (pa_cons (pv 0) (pa_cons (pv 3) (pa_cons (pe_ix (ixT g.K) (pv 6) pe_int (fun _ _ => rfl)) pa_nil)))))) (pw_or1 (pt_not (pt_val (pe_callB (cAll g.K rfl) (by rfl) tx.all bt_all (pa_cons (pe_lc rfl nd_is_part_finished (piT g.K (pv 4)) (blkOk_by (own := [("road", 7)]) (N := N_is_part_finished) (sc := defScope sis_part_finished) (by decide +kernel)) (fun _ _ _ _ _ => (pg_name (i := 7) nd_is_part_finished rfl (Or.inl rfl))) (fun _ _ _ _ _ => pts_nil) (fun _ _ _ _ _ => (pe_cmpR (opIn g.K) (pv 7) (pe_ix (ixT g.K) (pv 6) pe_int (fun _ _ => rfl)) (by rfl)))) pa_nil))))))) (pss_one (ps_ret pe_bl)) pss_nil))))
    (pss_one (ps_ret (pe_cmpR op_eq (pe_callB (cSum g.K rfl) (by rfl) tx.sum bt_sum (pa_cons (pe_lc rfl nd_is_part_finished (piL g.K (pv 2)) (blkOk_by (own := [("forest", 8), ("many", 9)]) (N := N_is_part_finished) (sc := defScope sis_part_finished) (by decide +kernel)) (fun _ _ _ _ _ => (pgT g.K 2 (pgs_cons (pg_name (i := 8) nd_is_part_finished rfl (Or.inl rfl)) (pgs_cons (pg_name (i := 9) nd_is_part_finished rfl (Or.inl rfl)) pgs_nil)))) (fun _ _ _ _ _ => pts_nil) (fun _ _ _ _ _ => (pv 9))) pa_nil)) (pv 5) (nomark _))))))), ?_⟩
  rintro xs Q ⟨h, rs, ms, ⟨n, row, t⟩, rows, rfl, ok, hn, hrow, hrl, hl, hsum, hQ⟩
  dsimp only at hn hrow hrl hsum
  refine sq_asg (P := fun y => y = .d (entD (n, row, t))) (ev_var rfl) ?_
  rintro y rfl
  refine ⟨_, _, tg_tup (tgs_cons tg_d (tgs_cons tg_d (tgs_cons tg_d tgs_nil))) rfl, ?_⟩
  refine sq_no (eb_not (eb_test (ev_isi (ev_var rfl) rfl rfl))) rfl ?_
  refine st_seq (M := fun ρ => ∃ a, ρ = [some (newsX h rs ms), some (.d (entD (n, row, t))), some (.d (rowsD rows)), some (.d (.int (n : Int))), some (.d (tupN row)), some (.d (.int t)), a, none, none, none]) (st_for (it_list (ev_var rfl)) (fun _ i ρ => ∃ a, ρ = [some (newsX h rs ms), some (.d (entD (n, row, t))), some (.d (rowsD rows)), some (.d (.int (n : Int))), some (.d (tupN row)), some (.d (.int t)), a, none, none, none]) ?_ ?_ ?_) ?_
  · rintro ds rfl
    exact ⟨none, rfl⟩
  · rintro ds i d ρ rfl hd ⟨a, rfl⟩
    rw [List.getElem?_map] at hd
    cases hs : rows[i]? with
    | none => rw [hs] at hd; cases hd
    | some r =>
      rw [hs] at hd
      obtain ⟨f, m⟩ := r
      cases hd
      obtain ⟨h1, h2, h3⟩ := hrow _ (List.mem_of_getElem? hs)
      dsimp only at h1 h2 h3
      have in6 : Ev g (tVar 6) [some (newsX h rs ms), some (.d (entD (n, row, t))), some (.d (rowsD rows)), some (.d (.int (n : Int))), some (.d (tupN row)), some (.d (.int t)), some (.d (rwD (f, m))), none, none, none] (.d (.tuple [tupN f, .int m])) := ev_var rfl
      refine ⟨_, _, tg_d, ?_⟩
      refine sq_no (eb_or (eb_not (eb_test (ev_isi in6 rfl rfl))) fun _ => eb_or (eb_test (ev_neN (ev_len in6 rfl) (ev_n 2))) fun _ => eb_not (eb_test (ev_call (ea_cons (ev_ixTn in6 (ev_n 1) rfl) ea_nil) ⟨m, rfl, rfl⟩))) (by simp; omega) ?_
      refine st_ifB (eb_or (eb_not (eb_test (ev_call (P := fun y => y = .d (.bool true)) (ea_cons (ev_var rfl) (ea_cons (ev_var rfl) (ea_cons (ev_ixTn in6 (ev_n 0) rfl) ea_nil))) ⟨h, rs, ms, n, f, rfl, ok, hn, h2, rfl⟩))) fun _ => eb_not (eb_test (ev_allT (l := row) (enc := fun a : Nat => PyData.int (a : Int)) (it_tup (ev_var rfl)) (by omega) fun a ha => ⟨_, _, tg_d, by decide, (ev_inN (ns := f) (ev_var rfl) (ev_ixTn (ds := [tupN f, .int m]) (ev_var rfl) (ev_n 0) rfl) rfl).is (by rw [decide_eq_true (h3 a ha)])⟩))) (fun e => by cases e) fun _ => st_nx ⟨_, rfl⟩
  · rintro ds ρ rfl ⟨a, rfl⟩
    exact ⟨a, rfl⟩
  · rintro ρ ⟨a, rfl⟩
    refine st_ret (ev_eqI (ev_sum (ev_lcA (l := rows) (enc := rwD) (f := fun r : Rwx => PyData.int r.2) (it_list (ev_var rfl)) (by omega) fun r hr => ⟨_, _, tg_tup (tgs_cons tg_d (tgs_cons tg_d tgs_nil)) rfl, by decide, ev_var rfl⟩) (ns := rows.map fun r : Rwx => r.2) (by rw [List.map_map]; rfl)) (ev_var rfl)) ?_
    rw [hsum, decide_eq_true rfl]
    exact hQ
def S_is_message : SpD := fun xs P => ∃ (h : Nat) (rs : List Road) (m : Msg), xs = [netX h rs, .d (msgD m)] ∧ h ≤ 6 ∧ MsgOk h m ∧ P (.d (.bool true))
abbrev N_is_message : List Str := ["net", "value"]
abbrev ps_is_message : List Str := ["net", "value"]
theorem sc_is_message : FnScope N_is_message ps_is_message (defScope sis_message) := ⟨rfl, rfl, rfl, by decide +kernel, rfl, by decide +kernel, by decide +kernel⟩
theorem nd_is_message : N_is_message.Nodup := sc_is_message.nd
theorem bd_is_message : BindH "is_message" "is_message" ps_is_message sis_message := fun _ _ _ _ _ _ us hl => match us, hl with | [_, _], _ => rfl
theorem ok_is_message {P : Program} {w : World} {mg : Str → Option Value} {base : Heap} {g : Gb} (c : Txt g mg base) : FOk P w g.K mg base 4 "is_message" ps_is_message (spOf g S_is_message) := by
  have tx := txt_tx c
  obtain ⟨_, kk_MOST_PIECES⟩ := k_MOST_PIECES c
  refine FOk.mk' (h_is_message c) sc_is_message bd_is_message (by intro xs Q h; unfold S_is_message at h; (repeat' (rcases h with ⟨_, h⟩)); subst_vars; rfl) fun cdv A outer s H E hr => ⟨_, (pss_cons (ps_if (PW.pt (pw_or (pt_not (pt_val (pe_callB (cIsi g.K) (by rfl) tx.isinstance bt_isinstance (pa_cons (pv 1) (pa_cons (pe_bltn (v := .ty "tuple") (by rfl) tx.tuple bt_tuple rfl) pa_nil))))) (pw_or1 (pt_cmpR op_ne (pe_callB (cLen g.K) (by rfl) tx.len bt_len (pa_cons (pv 1) pa_nil)) pe_int (nomark _))))) (pss_one (ps_ret pe_bl)) pss_nil)
    (pss_one (ps_ret (pe_and (pe_callF (ok_is_lot c) (hr.mono (by decide)) (pa_cons (pv 0) (pa_cons (pe_ix (ixT g.K) (pv 1) pe_int (fun _ _ => rfl)) pa_nil))) (pe_one (pe_callF (ok_is_number c) (hr.mono (by decide)) (pa_cons (pe_ix (ixT g.K) (pv 1) pe_int (fun _ _ => rfl)) (pa_cons pe_int (pa_cons (pe_glob (v := .int 1000000000000) rfl kk_MOST_PIECES ⟨_, rfl⟩) pa_nil))))))))), ?_⟩
  rintro xs Q ⟨h, rs, ⟨l, p⟩, rfl, hh, ⟨h1, h2, h3⟩, hQ⟩
  dsimp only at h1 h2 h3
  have in1 : Ev g (tVar 1) (startR N_is_message [netX h rs, .d (msgD (l, p))]) (.d (.tuple [tupN l, .int p])) := ev_var rfl
  refine sq_no (eb_or (eb_not (eb_test (ev_isi in1 rfl rfl))) fun _ => eb_test (ev_neN (ev_len in1 rfl) (ev_n 2))) (by simp) ?_
  refine st_ret (ev_andV (ev_call (P := fun y => y = .d (.bool true)) (ea_cons (ev_var rfl) (ea_cons (ev_ixTn in1 (ev_n 0) rfl) ea_nil)) ⟨h, rdsL rs, l, rfl, hh, h1, by have := h1.len hh; omega, rfl⟩) fun _ => ev_call (ea_cons (ev_ixTn in1 (ev_n 1) rfl) (ea_cons ev_int (ea_cons ev_k ea_nil))) ⟨_, _, _, rfl, rfl⟩) ?_
  rw [decide_eq_true h2, decide_eq_true h3]
  exact hQ
end TB
set_option Elab.async false
set_option linter.all false
set_option autoImplicit false
set_option maxRecDepth 100000
set_option maxHeartbeats 4000000
namespace TB
open PySem PySem.Spec PyProof.Rows L2
theorem FOk.mkC {P : Program} {w : World} {mg : Str → Option Value} {base : Heap} {g : Gb} {k : Nat} {x : Str} {ps N : List Str} {S : SpD} {st : Stmt} (F : HasF g.K mg x st) (Sc : FnScope N ps (defScope st)) (hb : BindH x x ps st) (hn : ∀ xs Q, S xs Q → xs.length = ps.length)
    (body : ∀ (A : Around) (outer : List Env) (s : Shared) (H : Hp) (E : XK), Room k (A.deeper (envOfC x (defScope st) s.heap.objs.size (He.ga g.K x) (.ref (He.codeOf g.K (x, none))))) →
      ∃ t, PSs (cxOf CX0 P w g.K mg base N x (defScope st) (He.ga g.K x) (.ref (He.codeOf g.K (x, none))) A outer s H E).nox (defBody st) t ∧ ∀ xs Q, S xs Q → StP g t (startR N xs) ⟨fun _ => Q (.d .none), Q, fun _ => False, fun _ => False⟩) : FOk P w g.K mg base (k + 1) x ps (spOf g S) := by
  obtain ⟨fd, F1⟩ := F.fd
  refine ⟨⟨fd, ?_, F1.bindsN hb⟩, F1.kp, F.gl⟩
  obtain ⟨oc, od, dV, kV, doc, pm, an, cdv, ct, osl, rfl, lk, hcd, _, _⟩ := F1.ex
  obtain ⟨c, rfl⟩ := He.codeIn_ref hcd
  have e : He.codeOf g.K (x, none) = c := He.codeOf_eq (p := (x, none)) lk rfl
  rw [e] at body
  refine fn_of lk hcd Sc (sp_len hn) fun A outer s H vs Q E hr hsp => ?_
  obtain ⟨t, h1, h2⟩ := body A outer s H E hr
  exact ⟨t, h1.nox, sp_of hsp h2⟩
def lots0 (h : Nat) : List (List Nat) := (List.range (2 ^ h - 1)).map fun i => lotOf (1 + i)
theorem lots_perm : ∀ h, h < 7 → (lots0 h).isPerm (lotsL h) = true := by decide +kernel
theorem lots_strict : ∀ h, h < 7 → (lotsL h).Pairwise (fun a b => PySem.W.dataLt (lotKey a) (lotKey b) = true) := by decide +kernel
theorem lots0_short : ∀ h, h < 7 → ∀ l ∈ lots0 h, l.length ≤ 6 := by decide +kernel
theorem lotsL_ok : ∀ h, h < 7 → ∀ l ∈ lotsL h, l ≠ [] ∧ l.Pairwise (· < ·) ∧ ∀ v ∈ l, v < h := by decide +kernel
theorem lotsL_len : ∀ h, h < 7 → (lotsL h).length ≤ 63 := by decide +kernel
abbrev N_all_lots : List Str := ["net", "some", "mask"]
abbrev ps_all_lots : List Str := ["net"]
theorem sc_all_lots : FnScope N_all_lots ps_all_lots (defScope sall_lots) := ⟨rfl, rfl, rfl, by decide +kernel, rfl, by decide +kernel, by decide +kernel⟩
theorem nd_all_lots : N_all_lots.Nodup := sc_all_lots.nd
theorem bd_all_lots : BindH "all_lots" "all_lots" ps_all_lots sall_lots := fun _ _ _ _ _ _ us hl => match us, hl with | [_], _ => rfl
def S_all_lots : SpD := fun xs P => ∃ (h : Nat) (rs : List PyData), xs = [.net h rs] ∧ h ≤ 6 ∧ P (.d (lotsD (lotsL h)))
theorem ok_all_lots {P : Program} {w : World} {mg : Str → Option Value} {base : Heap} {g : Gb} (c : Txt g mg base) : FOk P w g.K mg base 4 "all_lots" ps_all_lots (spOf g S_all_lots) := by
  have tx := txt_tx c
  have hqn := c.qn
  refine FOk.mkC (h_all_lots c) sc_all_lots bd_all_lots (by intro xs Q h; unfold S_all_lots at h; (repeat' (rcases h with ⟨_, h⟩)); subst_vars; rfl) fun A outer s H E hr => ?_
  have hcd : (cxOf CX0 P w g.K mg base N_all_lots "all_lots" (defScope sall_lots) (He.ga g.K "all_lots") (.ref (He.codeOf g.K ("all_lots", none))) A outer s H E).nox.env.code = .ref (He.codeOf g.K ("all_lots", none)) := rfl
  have hqq : (cxOf CX0 P w g.K mg base N_all_lots "all_lots" (defScope sall_lots) (He.ga g.K "all_lots") (.ref (He.codeOf g.K ("all_lots", none))) A outer s H E).nox.env.qual ++ "<lambda>" = g.q := by
    rw [hqn]
    exact (by decide +kernel : (("all_lots" : Str) ++ ".<locals>.") ++ "<lambda>" = ("all_lots.<locals>.<lambda>" : Str))
  refine ⟨_, (pss_cons (ps_setLc (i := 1) rfl nd_all_lots rfl rfl (sw_true rfl rfl rfl (by decide +kernel)) (pi_range2 rfl tx.range (pa_cons pe_int (pa_cons (pe_op op_shl pe_int (pe_callB (cLenO (ok_Net___len__ c) (hr.mono (by decide)) g.K) (by rfl) tx.len bt_len (pa_cons (pv 0) pa_nil))) pa_nil))) (blkOk_by (own := [("mask", 2)]) (N := N_all_lots) (sc := defScope sall_lots) (by decide +kernel)) (fun _ _ _ _ _ => (pg_name (i := 2) nd_all_lots rfl (Or.inl rfl))) (fun _ _ _ _ _ => pts_nil) (fun _ _ _ _ _ => (pe_callF (ok_lot_of c) (hr.mono (by decide)) (pa_cons (pv 2) pa_nil))))
    (pss_one (ps_ret (pe_sortLam g.K g.q tx.sorted tx.len c.tb hcd (hr.mono (by decide)) (pv 1) (hq := hqq))))), ?_⟩
  rintro xs Q ⟨h, rs, rfl, hh, hQ⟩
  have hp := pow6 hh
  have hp2 : 1 <<< h = 2 ^ h := Nat.one_shiftLeft h
  have hp3 : 1 ≤ 2 ^ h := Nat.one_le_two_pow
  refine sq_set (x := .d (.list ((lots0 h).map tupN))) ((ev_lcA (l := List.range (2 ^ h - 1)) (enc := fun i : Nat => PyData.int ((1 + i : Nat) : Int)) (f := fun i : Nat => tupN (lotOf (1 + i))) ?_ (by rw [List.length_range]; omega) fun i hi => ⟨_, _, tg_d, by decide, ev_call (ea_cons (ev_var rfl) ea_nil) ⟨1 + i, rfl, by have := List.mem_range.mp hi; omega, rfl⟩⟩).is (by unfold lots0; rw [List.map_map]; rfl)) ?_
  · have e1 : rangeD 1 (((1 <<< h : Nat) : Int) - 1).toNat = (List.range (2 ^ h - 1)).map fun i : Nat => PyData.int ((1 + i : Nat) : Int) := by
      rw [hp2]
      have : (((2 ^ h : Nat) : Int) - 1).toNat = 2 ^ h - 1 := by omega
      rw [this]
      unfold rangeD
      exact List.map_congr_left fun i _ => by rw [Int.natCast_add]; rfl
    rw [← e1]
    exact it_range2 ev_int (ev_shl ev_int (len_net (ev_var rfl) hh) (by omega)) (by omega)
  · have hl : (lots0 h).length ≤ 63 := by unfold lots0; rw [List.length_map, List.length_range]; omega
    refine st_ret (ev_sortLam (lots := lots0 h) (L := lotsL h) (ev_var rfl) (by omega) (fun l hl => by have := lots0_short h (by omega) l hl; omega) fun L' p pw => ?_) hQ
    exact lots_uniq (p.trans (List.isPerm_iff.mp (lots_perm h (by omega)))) pw (lots_strict h (by omega))
noncomputable def needN (rs : List Road) (ms : List Msg) (l : List Nat) : Int := ((ms.filter fun m => meetB l (heardL rs m.1) && !meetB l m.1).map fun m => m.2).sum
def S_News_need : SpD := fun xs P => ∃ (h : Nat) (rs : List Road) (ms : List Msg) (l : List Nat), xs = [newsX h rs ms, .d (tupN l)] ∧ ms.length ≤ 3 ∧ l.length ≤ 1000 ∧ P (.d (.int (needN rs ms l)))
theorem zip_self_map {α β : Type} (l : List α) (f : α → β) : List.zip l (l.map f) = l.map fun a => (a, f a) := by
  induction l with
  | nil => rfl
  | cons a l ih => rw [List.map_cons, List.zip_cons_cons, ih, List.map_cons]
theorem meet_call {g : Gb} {ta tb : TE} {ρ : Rho} {a b : List Nat} (ha : Ev g ta ρ (.d (tupN a))) (hb : Ev g tb ρ (.d (tupN b))) (hl : a.length ≤ 1000) : Ev g (tCall (spOf g S_meet) [] E0 (tCons ta (tCons tb tNil))) ρ (.d (.bool (meetB a b))) := ev_call (ea_cons ha (ea_cons hb ea_nil)) ⟨a, b, rfl, hl, rfl⟩
abbrev N_News_need : List Str := ["self", "lot", "rows", "knowing", "pieces", "heard"]
abbrev ps_News_need : List Str := ["self", "lot"]
theorem sc_News_need : FnScope N_News_need ps_News_need (defScope sNews_need) := ⟨rfl, rfl, rfl, by decide +kernel, rfl, by decide +kernel, by decide +kernel⟩
theorem nd_News_need : N_News_need.Nodup := sc_News_need.nd
theorem bd_News_need : BindH "need" "News.need" ps_News_need sNews_need := fun _ _ _ _ _ _ us hl => match us, hl with | [_, _], _ => rfl
theorem ok_News_need {P : Program} {w : World} {mg : Str → Option Value} {base : Heap} {g : Gb} (c : Txt g mg base) : MOk P w g.K mg base 2 "News" "need" ps_News_need (spOf g S_News_need) := by
  have tx := txt_tx c
  refine MOk.mk' (h_News_need c) (cl_News c) sc_News_need bd_News_need (by intro xs Q h; unfold S_News_need at h; (repeat' (rcases h with ⟨_, h⟩)); subst_vars; rfl) fun cdv A outer s H E hr => ⟨_, (pss_cons (ps_setLc (i := 2) rfl nd_News_need rfl rfl (sw_true rfl rfl rfl (by decide +kernel)) (piZip g.K tx.zip (pa_cons (peFld g.K (pv 0)) (pa_cons (peFld g.K (pv 0)) pa_nil))) (blkOk_by (own := [("heard", 5), ("knowing", 3), ("pieces", 4)]) (N := N_News_need) (sc := defScope sNews_need) (by decide +kernel)) (fun _ _ _ _ _ => (pgT g.K 2 (pgs_cons (pgT g.K 2 (pgs_cons (pg_name (i := 3) nd_News_need rfl (Or.inl rfl)) (pgs_cons (pg_name (i := 4) nd_News_need rfl (Or.inl rfl)) pgs_nil))) (pgs_cons (pg_name (i := 5) nd_News_need rfl (Or.inl rfl)) pgs_nil)))) (fun _ _ _ _ _ => (pts_one (pt_val (pe_callF (ok_meet c) (hr.mono (by decide)) (pa_cons (pv 1) (pa_cons (pv 5) pa_nil)))))) (fun _ _ _ _ _ => (pe_tup (pa_cons (pv 3) (pa_cons (pv 4) pa_nil)))))
    (pss_one (ps_ret (pe_callB (cSum g.K rfl) (by rfl) tx.sum bt_sum (pa_cons (pe_lc rfl nd_News_need (piL g.K (pv 2)) (blkOk_by (own := [("knowing", 3), ("pieces", 4)]) (N := N_News_need) (sc := defScope sNews_need) (by decide +kernel)) (fun _ _ _ _ _ => (pgT g.K 2 (pgs_cons (pg_name (i := 3) nd_News_need rfl (Or.inl rfl)) (pgs_cons (pg_name (i := 4) nd_News_need rfl (Or.inl rfl)) pgs_nil)))) (fun _ _ _ _ _ => (pts_one (pt_not (pt_val (pe_callF (ok_meet c) (hr.mono (by decide)) (pa_cons (pv 1) (pa_cons (pv 3) pa_nil))))))) (fun _ _ _ _ _ => (pv 4))) pa_nil))))), ?_⟩
  rintro xs Q ⟨h, rs, ms, l, rfl, hm, hl, hQ⟩
  refine sq_set (x := .d (.list ((ms.filter fun m => meetB l (heardL rs m.1)).map msgD))) ((ev_lc (l := ms.map fun m => (m, heardL rs m.1)) (enc := fun p : Msg × List Nat => PyData.tuple [msgD p.1, tupN p.2]) (p := fun p => meetB l p.2) (f := fun p : Msg × List Nat => msgD p.1) ?_ (by rw [List.length_map]; omega)
    fun p hp => ⟨_, _, tg_tup (tgs_cons (tg_tup (tgs_cons tg_d (tgs_cons tg_d tgs_nil)) rfl) (tgs_cons tg_d tgs_nil)) rfl, by decide, eb_test (meet_call (ev_var rfl) (ev_var rfl) hl), fun _ => ev_tup (ds := [tupN p.1.1, .int p.1.2]) (ea_cons (ev_var rfl) (ea_cons (ev_var rfl) ea_nil)) (by simp)⟩).is ?_) ?_
  · have e1 : (ms.map fun m : Msg => (m, heardL rs m.1)).map (fun p : Msg × List Nat => PyData.tuple [msgD p.1, tupN p.2]) = (List.zip ms (ms.map fun m : Msg => heardL rs m.1)).map fun p : Msg × List Nat => PyData.tuple [msgD p.1, tupN p.2] := by rw [zip_self_map]
    rw [e1]
    exact it_zipM (f := msgD) (k := tupN) (ev_told (h := h) (rs := rdsL rs) (ms := ms.map msgD) (hs := (ms.map fun m : Msg => heardL rs m.1).map tupN) (cl_News c) (na_News_told c) (ev_var rfl)) (ev_heard (h := h) (rs := rdsL rs) (ms := ms.map msgD) (hs := (ms.map fun m : Msg => heardL rs m.1).map tupN) (cl_News c) (na_News_heard c) (ev_var rfl))
  · congr 2
    rw [List.filter_map, List.map_map]
    rfl
  · refine st_ret (ev_sum (ev_lc (l := ms.filter fun m => meetB l (heardL rs m.1)) (enc := msgD) (p := fun m => !meetB l m.1) (f := fun m : Msg => PyData.int m.2) (it_list (ev_var rfl)) (by have := List.length_filter_le (fun m : Msg => meetB l (heardL rs m.1)) ms; omega) fun m hm => ⟨_, _, tg_tup (tgs_cons tg_d (tgs_cons tg_d tgs_nil)) rfl, by decide, eb_not (eb_test (meet_call (ev_var rfl) (ev_var rfl) hl)), fun _ => ev_var rfl⟩) (ns := (ms.filter fun m : Msg => meetB l (heardL rs m.1) && !meetB l m.1).map fun m : Msg => m.2) (by
      rw [List.map_map, List.filter_filter]
      have : (fun a : Msg => !meetB l a.1 && meetB l (heardL rs a.1)) = fun a : Msg => meetB l (heardL rs a.1) && !meetB l a.1 := funext fun a => Bool.and_comm _ _
      rw [this]
      rfl)) hQ
noncomputable def lacks (h : Nat) (rs : List Road) (ms : List Msg) : List (List Nat) := (lotsL h).filter fun l => decide (flowL rs l < needN rs ms l)
def lackD (L : List (List Nat)) : PyData := match L with
  | [] => .none
  | l :: _ => tupN l
def S_News_lack : SpD := fun xs P => ∃ (h : Nat) (rs : List Road) (ms : List Msg), xs = [newsX h rs ms] ∧ NewsOk h rs ms ∧ P (.d (lackD (lacks h rs ms)))
theorem ev_netN {g : Gb} {mg : Str → Option Value} {base : Heap} (c : Txt g mg base) {ta : TE} {ρ : Rho} {h : Nat} {rs : List Road} {ms : List Msg} (ha : Ev g ta ρ (newsX h rs ms)) : Ev g (tFld g.K ta "net") ρ (netX h rs) := ev_net (h := h) (rs := rdsL rs) (ms := ms.map msgD) (hs := (ms.map fun m : Msg => heardL rs m.1).map tupN) (cl_News c) (na_News_net c) ha
theorem lots_call {g : Gb} {te : TE} {ρ : Rho} {h : Nat} {rs : List Road} (ha : Ev g te ρ (netX h rs)) (hh : h ≤ 6) : Ev g (tCall (spOf g S_all_lots) [] E0 (tCons te tNil)) ρ (.d (lotsD (lotsL h))) := ev_call (ea_cons ha ea_nil) ⟨h, rdsL rs, rfl, hh, rfl⟩
theorem pl_lots (L : List (List Nat)) : Pl 2 (lotsD L) := pl_list fun d hd => by
  obtain ⟨l, _, rfl⟩ := List.mem_map.mp hd
  exact pl_tupN l
abbrev N_News_lack : List Str := ["self", "some", "lot"]
abbrev ps_News_lack : List Str := ["self"]
theorem sc_News_lack : FnScope N_News_lack ps_News_lack (defScope sNews_lack) := ⟨rfl, rfl, rfl, by decide +kernel, rfl, by decide +kernel, by decide +kernel⟩
theorem nd_News_lack : N_News_lack.Nodup := sc_News_lack.nd
theorem bd_News_lack : BindH "lack" "News.lack" ps_News_lack sNews_lack := fun _ _ _ _ _ _ us hl => match us, hl with | [_], _ => rfl
theorem ok_News_lack {P : Program} {w : World} {mg : Str → Option Value} {base : Heap} {g : Gb} (c : Txt g mg base) : MOk P w g.K mg base 5 "News" "lack" ps_News_lack (spOf g S_News_lack) := by
  have tx := txt_tx c
  refine MOk.mk' (h_News_lack c) (cl_News c) sc_News_lack bd_News_lack (by intro xs Q h; unfold S_News_lack at h; (repeat' (rcases h with ⟨_, h⟩)); subst_vars; rfl) fun cdv A outer s H E hr => ⟨_, (pss_cons (ps_setLc (i := 1) rfl nd_News_lack rfl rfl (sw_true rfl rfl rfl (by decide +kernel)) (piL g.K (pe_callF (ok_all_lots c) (hr.mono (by decide)) (pa_cons (peFld g.K (pv 0)) pa_nil))) (blkOk_by (own := [("lot", 2)]) (N := N_News_lack) (sc := defScope sNews_lack) (by decide +kernel)) (fun _ _ _ _ _ => (pg_name (i := 2) nd_News_lack rfl (Or.inl rfl))) (fun _ _ _ _ _ => (pts_one (pt_cmpR op_lt (pe_callF (ok_inflow c) (hr.mono (by decide)) (pa_cons (peFld g.K (pv 0)) (pa_cons (pv 2) pa_nil))) (peMeth g.K (ok_News_need c) (hr.mono (by decide)) (pv 0) (pa_cons (pv 2) pa_nil)) (nomark _)))) (fun _ _ _ _ _ => (pv 2)))
    (pss_one (ps_ret (pe_ifExp (pt_cmpR (opNeD g.K hr.units) (pv 1) (pe_lst pa_nil) (nomark _)) (pe_ix (ixL g.K) (pv 1) pe_int (fun _ _ => rfl)) pe_non)))), ?_⟩
  rintro xs Q ⟨h, rs, ms, rfl, ok, hQ⟩
  have hh := ok.net.h6
  have hll := lotsL_len h (by omega)
  refine sq_set (x := .d (lotsD (lacks h rs ms))) (ev_lc (l := lotsL h) (enc := tupN) (p := fun l => decide (flowL rs l < needN rs ms l)) (f := tupN) (it_list (lots_call (rs := rs) (ev_netN c (ms := ms) (ev_var rfl)) hh)) (by omega) fun l hl => ⟨_, _, tg_d, by decide,
    eb_test (ev_lt (ev_call (P := fun y => y = .d (.int (flowL rs l))) (ea_cons (ev_netN c (ms := ms) (ev_var rfl)) (ea_cons (ev_var rfl) ea_nil)) ⟨h, rs, l, rfl, by have := ok.net.many; omega, rfl⟩) (ev_methNews (h := h) (rs := rdsL rs) (ms := ms.map msgD) (hs := (ms.map fun m : Msg => heardL rs m.1).map tupN) (P := fun y => y = .d (.int (needN rs ms l))) (ev_var rfl) rfl (ea_cons (ev_var rfl) ea_nil) ⟨h, rs, ms, l, rfl, ok.few, by have := LotOk.len (h := h) (lotsL_ok h (by omega) l hl) hh; omega, rfl⟩)), fun _ => ev_var rfl⟩) ?_
  refine st_retP (evp_if (P1 := fun b => b = !decide ((lacks h rs ms).map tupN = [])) ((eb_test (ev_neD (ev_var rfl) (ev_lst ed_nil) (pl_lots _).sh rfl)).is (by show (!PyData.eqv (.list ((lacks h rs ms).map tupN)) (.list [])) = _; rw [eqv_nil])) (fun e => ?_) fun e => ?_)
  · cases hL : lacks h rs ms with
    | nil => rw [hL] at e; simp at e
    | cons l L =>
      rw [hL] at hQ
      exact (ev_ixLn (ds := tupN l :: L.map tupN) (n := 0) (ev_var rfl) (ev_n 0) rfl rfl).imp fun x ex => by rw [ex]; exact ⟨rfl, hQ⟩
  · cases hL : lacks h rs ms with
    | nil =>
      rw [hL] at hQ
      exact ev_non.imp fun x ex => by rw [ex]; exact ⟨rfl, hQ⟩
    | cons l L => rw [hL] at e; simp at e
end TB
set_option Elab.async false
set_option linter.all false
set_option autoImplicit false
set_option maxRecDepth 100000
set_option maxHeartbeats 4000000
namespace TB
open PySem PySem.Spec PyProof.Rows L2
section
variable {g : Gb} {lf : Option Addr} {F0 H0 F F' H H' : Hp}
theorem Wl.write' (w : Wl g lf F H) {p : Addr} {o u : HO} (h : H p = some u) (hf : F p = none) (h2 : lf ≠ some p) (h3 : ∀ ps, u ≠ .tbl ps) (h4 : ∀ φ, u ≠ .ext φ) (ho : ∀ ps, o ≠ .tbl ps) : Wl g lf F (upd H p o) := by
  refine ⟨fun b u e => ?_, tabS_write w.tab h h3 h4, w.fT, fun l hl => ?_, one_upd w.one ho⟩
  · rw [upd_ne (ne_of_none e hf)]
    exact w.same b u e
  · obtain ⟨f1, a, b, e, r⟩ := w.feed l hl
    exact ⟨f1, a, b, by rw [upd_ne (fun z => h2 (by rw [← z]; exact hl))]; exact e, r⟩
/-- an object that is new since F0, H0 is written -/
theorem Gr.poke (r : Gr g lf F0 H0 F H) {p : Addr} {o u : HO} (h0 : H0 p = none) (h : H p = some u) (hf : F p = none) (h2 : lf ≠ some p) (h3 : ∀ ps, u ≠ .tbl ps) (h4 : ∀ φ, u ≠ .ext φ) (ho : ∀ ps, o ≠ .tbl ps) : Gr g lf F0 H0 F (upd H p o) where
  ff := r.ff
  hh := fun a v h1 h2 e => by
    rw [upd_ne (ne_of_none e h0)]
    exact r.hh a v h1 h2 e
  nw := r.nw
  wl := r.wl.write' h hf h2 h3 h4 ho
/-- an object that is new since F0, H0 is frozen -/
theorem Gr.frz (r : Gr g lf F0 H0 F H) {p : Addr} {o : HO} (h0 : H0 p = none) (h : H p = some o) (hf : F p = none) (h1 : p ≠ g.T) (h2 : lf ≠ some p) : Gr g lf F0 H0 (upd F p o) H where
  ff := r.ff.trans (same_upd' hf)
  hh := r.hh
  nw := fun a v h1 e => by
    rw [upd_ne (ne_of_none e h0)]
    exact r.nw a v h1 e
  wl := r.wl.freeze h hf h1 h2
/-- the same slots, from here on -/
theorem Ew.rebase {e : En} {σ : St} {ρ : Rho} (E : Ew g e σ F H ρ) (he : e.lf = lf) (hz : ∀ (i : Nat) x, ρ[i]? = some (some x) → x.fz = true) (w : Wl g lf F H') : Ew g ⟨lf, F, H'⟩ σ F H' ρ :=
  ⟨Gr.refl w, w, E.ln, fun i x h => by
    obtain ⟨v, h1, h2⟩ := E.bd i x h
    exact ⟨v, h1, Fx.rx (hz i x h) (h2.fx (hz i x h))⟩, fun i j xs ys n h1 h2 => by
    have := hz i _ h1
    cases this⟩
theorem raw_chk {e : En} {σ : St} {ρ : Rho} {D : Ends} {wi : TI} {tg : TG} {tt : TT} {ts : TS} {js : List Nat} {ds : List PyData} (E : Ew g e σ F H ρ) (hw : ItP g wi ρ (fun y => y = ds)) (hs : ∀ (i : Nat) d, ds[i]? = some d → ∃ ρ2, TgP g tg ρ (.d d) js ρ2 ∧ EvB g tt ρ2 false ∧ ρ2.length = ρ.length ∧ ∀ (i : Nat) x, ρ[i]? = some (some x) → ρ2[i]? = some (some x))
    (k : ∀ σ' F' H', Ew g e σ' F' H' ρ → Gr g e.lf F H F' H' → (∀ i, i ∉ js → σ'[i]? = σ[i]?) → D.nx σ' H') : tFor wi tg (tIfS tt ts tNext) D σ H := hw e σ F H E _ fun J F1 H1 ds' r1 pd wd => by
  subst pd
  obtain ⟨G, Y, W, hG, hY⟩ := wd
  refine for_it W (fun i σ' H' => ∃ F', Ew g e σ' F' H' ρ ∧ Gr g e.lf F1 H1 F' H' ∧ ∀ i, i ∉ js → σ'[i]? = σ[i]?) ⟨F1, E.grow r1, Gr.refl r1.wl, fun _ _ => rfl⟩ (fun i σ' H' hi p => ?_) (fun i x σ' H' H3 hi p y => ?_) fun σ' H' p => ?_
  · obtain ⟨F', E', r, _⟩ := p
    exact hG F' H' r.ff r.wl.same
  · obtain ⟨F', E', r, hσ⟩ := p
    have hdi : ds'[i]? = some ds'[i] := List.getElem?_eq_getElem hi
    obtain ⟨F3, r3, dx⟩ := hY i F' H' x H3 ds'[i] r.wl r.ff hdi y
    obtain ⟨ρ2, ht, hb, hl, hk⟩ := hs i ds'[i] hdi
    refine ht e σ' F3 H3 x (E'.grow r3) dx _ fun σ2 E2 _ h2 => hb e σ2 F3 H3 E2 _ fun b F4 H4 r4 pb => ?_
    subst pb
    exact iteF ⟨F4, (E2.grow r4).weak hl.symm fun i x h => hk i x h, r.trans r1.wl (r3.trans r.wl r4), fun i hi => (h2 i hi).trans (hσ i hi)⟩
  · obtain ⟨F', E', r, hσ⟩ := p
    exact k σ' F' H' E' (r1.trans E.wl r) hσ
/-- an object in the making at x -/
structure ISt (g : Gb) (lf : Option Addr) (F0 H0 : Hp) (x dx C : Addr) (fs : List (Str × V)) (σ : St) (F H : Hp) (ρ : Rho) : Prop where
  w0 : Wl g lf F0 H0
  gr : Gr g lf F0 H0 F H
  E : Ew g ⟨lf, F, H⟩ σ F H ρ
  fz : ∀ (i : Nat) y, ρ[i]? = some (some y) → y.fz = true
  s0 : σ[0]? = some (some (.ref x))
  hx : H x = some (.ins C dx fs)
  fx : F x = none
  h0 : H0 x = none
  xT : x ≠ g.T
  xl : lf ≠ some x
theorem fld_step {x dx C : Addr} {fs : List (Str × V)} {σ : St} {ρ : Rho} {tv : TE} {f : Str} {P : Dx → Prop} {D : Ends} (I : ISt g lf F0 H0 x dx C fs σ F H ρ) (cl : Cls g.K C) (na : NoAttr g.K C f) (hl : fs.length < 1000) (hv : EvP g tv ρ P)
    (k : ∀ v F' H' y, Gr g lf F H F' H' → Rx g ⟨lf, F, H⟩ F' H' v y → P y → ISt g lf F0 H0 x dx C (putF f v fs) σ F' (upd H' x (.ins C dx (putF f v fs))) ρ → D.nx σ (upd H' x (.ins C dx (putF f v fs)))) : sFld g.K (tVar 0) tv f D σ H := hv _ σ F H I.E _ fun v F1 H1 y r rx p => by
  have hx1 : H1 x = some (.ins C dx fs) := r.hh x _ I.xT I.xl I.hx
  have fx1 : F1 x = none := r.nw x _ I.fx I.hx
  have g1 : Gr g lf F0 H0 F1 H1 := I.gr.trans I.w0 r
  have s0 := I.s0
  have np : ∀ fs', (∀ ps, HO.ins C dx fs' ≠ .tbl ps) := fun _ _ z => by cases z
  refine ⟨.ref x, s0, x, C, dx, fs, rfl, hx1, cl, na, hl, ?_⟩
  have g2 : Gr g lf F0 H0 F1 (upd H1 x (.ins C dx (putF f v fs))) := g1.poke I.h0 hx1 fx1 I.xl (np _) (fun _ z => by cases z) (np _)
  exact k v F1 H1 y r rx p ⟨I.w0, g2, (I.E.grow r).rebase rfl I.fz g2.wl, I.fz, I.s0, upd_same, fx1, I.h0, I.xT, I.xl⟩
/-- at an __init__'s entry -/
theorem ist_start {N : List Str} {x dx C : Addr} {us : List V} {xs : List Dx} (w : Wl g lf F H) (a : ArgAll g lf F us xs) (hz : ∀ x ∈ xs, x.fz = true) (h1 : H x = none) (h2 : H dx = none) (h3 : dx ≠ x) :
    ISt g lf F H x dx C [] (L2.start N (.ref x :: us)) F (upd (upd H dx (.own x)) x (.ins C dx [])) (none :: (xs.map some ++ List.replicate (N.length - 1 - xs.length) none)) := by
  have r1 : Gr g lf F H F (upd H dx (.own x)) := Gr.newH w h2
  have hx : (upd H dx (.own x)) x = none := by rw [upd_ne (Ne.symm h3)]; exact h1
  have r2 : Gr g lf F H F (upd (upd H dx (.own x)) x (.ins C dx [])) := r1.trans w (Gr.newH r1.wl hx)
  have al := a.length
  have key : ∀ (i : Nat) y, (none :: (xs.map some ++ List.replicate (N.length - 1 - xs.length) none) : Rho)[i]? = some (some y) → ∃ j, i = j + 1 ∧ xs[j]? = some y := fun i y h => by
    cases i with
    | zero => cases h
    | succ j =>
      refine ⟨j, rfl, ?_⟩
      rw [List.getElem?_cons_succ] at h
      by_cases hj : j < xs.length
      · rw [List.getElem?_append_left (by simpa using hj), List.getElem?_map, List.getElem?_eq_getElem hj] at h
        rw [List.getElem?_eq_getElem hj]
        exact Option.some.inj h
      · rw [List.getElem?_append_right (by simpa using hj), List.getElem?_replicate] at h
        split at h <;> cases h
  refine ⟨w, r2, ⟨Gr.refl r2.wl, r2.wl, ?_, fun i y h => ?_, fun i j ys zs n h1 h2 => ?_⟩, fun i y h => ?_, rfl, upd_same, w.F_none h1, h1, w.T_ne h1, w.lf_ne h1⟩
  · unfold L2.start
    rw [List.length_append, List.length_map, List.length_cons, List.length_replicate, List.length_cons, List.length_append, List.length_map, List.length_replicate, al]
    omega
  · obtain ⟨j, rfl, hj⟩ := key i y h
    obtain ⟨v, hv, r⟩ := a.get hj
    refine ⟨v, ?_, ArgR.rx (e := ⟨lf, F, _⟩) r⟩
    unfold L2.start
    have hju : j < us.length := (List.getElem?_eq_some_iff.mp hv).1
    rw [List.getElem?_append_left (by rw [List.length_map, List.length_cons]; omega), List.getElem?_map, List.getElem?_cons_succ, hv]
    rfl
  · obtain ⟨j', rfl, hj⟩ := key i _ h1
    have := hz _ (List.mem_of_getElem? hj)
    cases this
  · obtain ⟨j, rfl, hj⟩ := key i y h
    exact hz _ (List.mem_of_getElem? hj)
/-- steps that change no object's fields -/
theorem ISt.next {x dx C : Addr} {fs : List (Str × V)} {σ σ' : St} {ρ : Rho} {e : En} (I : ISt g lf F0 H0 x dx C fs σ F H ρ) (he : e.lf = lf) (r : Gr g lf F H F' H') (E' : Ew g e σ' F' H' ρ) (h0 : σ'[0]? = σ[0]?) : ISt g lf F0 H0 x dx C fs σ' F' H' ρ :=
  ⟨I.w0, I.gr.trans I.w0 r, E'.rebase he I.fz (I.gr.trans I.w0 r).wl, I.fz, h0.trans I.s0, r.hh x _ I.xT I.xl I.hx, r.nw x _ I.fx I.hx, I.h0, I.xT, I.xl⟩
theorem if_chk {e : En} {σ : St} {ρ : Rho} {D : Ends} {tt : TT} {ts : TS} {b : Bool} (E : Ew g e σ F H ρ) (h : EvB g tt ρ b) (hb : b = false) (k : ∀ F' H', Ew g e σ F' H' ρ → Gr g e.lf F H F' H' → D.nx σ H') : tIfS tt ts tNext D σ H := h e σ F H E _ fun b' F1 H1 r pb => by
  rw [pb, hb]
  exact iteF (k F1 H1 (E.grow r) r)
theorem rq_if {e : En} {σ : St} {ρ : Rho} {D : Ends} {tt : TT} {ts R : TS} {b : Bool} (E : Ew g e σ F H ρ) (h : EvB g tt ρ b) (hb : b = false) (k : ∀ F' H', Ew g e σ F' H' ρ → Gr g e.lf F H F' H' → R D σ H') : tSeq (tIfS tt ts tNext) R D σ H := if_chk (D := { D with nx := R D }) E h hb k
theorem rq_for {e : En} {σ : St} {ρ : Rho} {D : Ends} {wi : TI} {tg : TG} {tt : TT} {ts R : TS} {js : List Nat} {ds : List PyData} (E : Ew g e σ F H ρ) (hw : ItP g wi ρ (fun y => y = ds)) (hs : ∀ (i : Nat) d, ds[i]? = some d → ∃ ρ2, TgP g tg ρ (.d d) js ρ2 ∧ EvB g tt ρ2 false ∧ ρ2.length = ρ.length ∧ ∀ (i : Nat) x, ρ[i]? = some (some x) → ρ2[i]? = some (some x))
    (k : ∀ σ' F' H', Ew g e σ' F' H' ρ → Gr g e.lf F H F' H' → (∀ i, i ∉ js → σ'[i]? = σ[i]?) → R D σ' H') : tSeq (tFor wi tg (tIfS tt ts tNext)) R D σ H := raw_chk (D := { D with nx := R D }) E hw hs k
theorem rq_fld {x dx C : Addr} {fs : List (Str × V)} {σ : St} {ρ : Rho} {tv : TE} {f : Str} {P : Dx → Prop} {D : Ends} {R : TS} (I : ISt g lf F0 H0 x dx C fs σ F H ρ) (cl : Cls g.K C) (na : NoAttr g.K C f) (hl : fs.length < 1000) (hv : EvP g tv ρ P)
    (k : ∀ v F' H' y, Gr g lf F H F' H' → Rx g ⟨lf, F, H⟩ F' H' v y → P y → ISt g lf F0 H0 x dx C (putF f v fs) σ F' (upd H' x (.ins C dx (putF f v fs))) ρ → R D σ (upd H' x (.ins C dx (putF f v fs)))) : tSeq (sFld g.K (tVar 0) tv f) R D σ H := fld_step (D := { D with nx := R D }) I cl na hl hv k
/-- the object is done -/
theorem ISt.done {x dx C : Addr} {fs : List (Str × V)} {σ : St} {ρ : Rho} (I : ISt g lf F0 H0 x dx C fs σ F H ρ) : Gr g lf F0 H0 (upd F x (.ins C dx fs)) H ∧ Same F (upd F x (.ins C dx fs)) :=
  ⟨I.gr.frz I.h0 I.hx I.fx I.xT I.xl, same_upd' I.fx⟩
end
def S_NetI (g : Gb) : List Dx → (Hp → Addr → Prop) → Prop := fun xs P => ∃ (h : Nat) (rs : List Road), xs = [.d (.int (h : Int)), .d (rdsD rs)] ∧ NetOk h rs ∧ ∀ F a, NetAt g.K F a h (rdsL rs) → P F a
abbrev N_Net___init__ : List Str := ["self", "houses", "roads", "number", "road"]
abbrev ps_Net___init__ : List Str := ["self", "houses", "roads"]
theorem sc_Net___init__ : FnScope N_Net___init__ ps_Net___init__ (defScope sNet___init__) := ⟨rfl, rfl, rfl, by decide +kernel, rfl, by decide +kernel, by decide +kernel⟩
theorem nd_Net___init__ : N_Net___init__.Nodup := sc_Net___init__.nd
theorem bd_Net___init__ : BindH "__init__" "Net.__init__" ps_Net___init__ sNet___init__ := fun _ _ _ _ _ _ us hl => match us, hl with | [_, _, _], _ => rfl
theorem ok_Net___init__ {P : Program} {w : World} {mg : Str → Option Value} {base : Heap} {g : Gb} (c : Txt g mg base) : MOk P w g.K mg base 4 "Net" "__init__" ps_Net___init__ (spInit g "Net" (S_NetI g)) := by
  have tx := txt_tx c
  obtain ⟨_, kk_MOST_HOUSES⟩ := k_MOST_HOUSES c
  obtain ⟨_, kk_MOST_ROADS⟩ := k_MOST_ROADS c
  refine MOk.raw (h_Net___init__ c) (cl_Net c) sc_Net___init__ bd_Net___init__ (fun vs H Q E h => ?_) fun cdv A outer s H E hr => ⟨_, (pss_cons (ps_if (PW.pt (pw_or (pt_not (pt_val (pe_callF (ok_is_number c) (hr.mono (by decide)) (pa_cons (pv 1) (pa_cons pe_int (pa_cons (pe_glob (v := .int 6) rfl kk_MOST_HOUSES ⟨_, rfl⟩) pa_nil)))))) (pw_or (pt_not (pt_val (pe_callB (cIsi g.K) (by rfl) tx.isinstance bt_isinstance (pa_cons (pv 2) (pa_cons (pe_bltn (v := .ty "list") (by rfl) tx.list bt_list rfl) pa_nil))))) (pw_or1 (pt_cmpR op_gt (pe_callB (cLen g.K) (by rfl) tx.len bt_len (pa_cons (pv 2) pa_nil)) (pe_glob (v := .int 12) rfl kk_MOST_ROADS ⟨_, rfl⟩) (nomark _)))))) (pss_one ps_never) pss_nil)
    (pss_cons (ps_for PassesOwn.never rfl (piEnum g.K tx.enumerate (pa_cons (pv 2) pa_nil)) (pgT g.K 2 (pgs_cons (pg_name (i := 3) nd_Net___init__ rfl (Or.inl rfl)) (pgs_cons (pg_name (i := 4) nd_Net___init__ rfl (Or.inl rfl)) pgs_nil))) (pss_one (ps_if (pt_not (pt_val (pe_callF (ok_is_road c) (hr.mono (by decide)) (pa_cons (pv 4) (pa_cons (pv 1) pa_nil))))) (pss_one ps_never) pss_nil)))
    (pss_cons (ps_fld (pv 0) (pe_listRange g.K tx.list tx.range (pv 1)) (by rfl))
    (pss_one (ps_fld (pv 0) (pe_callTy (cList g.K) (by rfl) tx.list bt_list (pa_cons (pv 2) pa_nil)) (by rfl)))))), ?_⟩
  · obtain ⟨lf, F, H, x, dx, us, xs, P, rfl, _, a, ⟨h, rs, rfl, _⟩, _⟩ := h
    rw [List.length_cons, a.length]
    rfl
  rintro vs H1 Q E' ⟨lf, F, H0, x, dx, us, xs, P, rfl, w, a, ⟨h, rs, rfl, ok, hP⟩, hx, hdx, hne, rfl, hQ⟩
  have h6 := ok.h6
  have h1 := ok.h1
  have hm := ok.many
  have I := ist_start (N := N_Net___init__) (C := He.ga g.K "Net") w a (fun x hx => by
    rcases List.mem_cons.mp hx with e | e
    · rw [e]; rfl
    · rw [List.mem_singleton.mp e]; rfl) hx hdx hne
  refine rq_if I.E (b := _) (eb_or (eb_not (eb_test (ev_call (ea_cons (ev_var rfl) (ea_cons ev_int (ea_cons ev_k ea_nil))) ⟨_, _, _, rfl, rfl⟩))) fun _ => eb_or (eb_not (eb_test (ev_isi (ev_var rfl) rfl rfl))) fun _ => eb_test (ev_gt (ev_len (ev_var rfl) rfl) ev_k)) ?_ fun F1 H1 E1 r1 => ?_
  · have e1 : (rs.map rdD).length = rs.length := List.length_map _
    simp [e1]
    omega
  have I1 := I.next rfl r1 E1 rfl
  refine rq_for (js := [3, 4]) I1.E (it_enumR (l := rs) (enc := rdD) (0, 0, 0) (ev_var rfl)) (fun i d hd => ?_) fun σ2 F2 H2 E2 r2 hσ => ?_
  · rw [List.getElem?_map] at hd
    by_cases hi : i < rs.length
    · rw [List.getElem?_range hi] at hd
      obtain rfl : d = .tuple [.int (i : Int), rdD (rd rs i)] := (Option.some.inj hd).symm
      refine ⟨_, tg_tup (tgs_cons tg_d (tgs_cons tg_d tgs_nil)) rfl, ?_, rfl, fun j y hj => ?_⟩
      · exact (eb_not (eb_test (ev_call (ea_cons (ev_var rfl) (ea_cons (ev_var rfl) ea_nil)) ⟨rd rs i, h, rfl, ok.road _ (rd_mem hi), rfl⟩))).is rfl
      match j, hj with
      | 0, hj => cases hj
      | 1, hj => exact hj
      | 2, hj => exact hj
      | 3, hj => cases hj
      | 4, hj => cases hj
      | j + 5, hj => cases hj
    · rw [List.getElem?_eq_none (by rw [List.length_range]; omega)] at hd
      cases hd
  have I2 := I1.next rfl r2 E2 (hσ 0 (by decide))
  refine rq_fld I2 (cl_Net c) (na_Net_places c) (by decide) (ev_listRg (n := h) (ev_var rfl) (by omega)) fun v1 F3 H3 y3 r3 rx3 p3 I3 => ?_
  refine fld_step I3 (cl_Net c) (na_Net_built c) (by show 1 < 1000; decide) (ev_listS (ds := rs.map rdD) (ev_var rfl) rfl) fun v2 F4 H4 y4 r4 rx4 p4 I4 => ?_
  subst p3 p4
  obtain ⟨gr, sm⟩ := I4.done
  have q1 : Dq F3 v1 (.list (intsTo h)) := rx3
  have q2 : Dq F4 v2 (.list (rs.map rdD)) := rx4
  exact hQ _ _ gr (hP _ x ⟨dx, v1, v2, upd_same, (q1.mono r4.ff).mono sm, q2.mono sm⟩)
def S_NewsI (g : Gb) : List Dx → (Hp → Addr → Prop) → Prop := fun xs P => ∃ (h : Nat) (rs : List Road) (ms : List Msg), xs = [netX h rs, .d (msgsD ms)] ∧ NewsOk h rs ms ∧ ∀ F a, NewsAt g.K F a h (rdsL rs) (ms.map msgD) ((ms.map fun m => heardL rs m.1).map tupN) → P F a
abbrev N_News___init__ : List Str := ["self", "net", "messages", "number", "message", "knowing", "pieces"]
abbrev ps_News___init__ : List Str := ["self", "net", "messages"]
theorem sc_News___init__ : FnScope N_News___init__ ps_News___init__ (defScope sNews___init__) := ⟨rfl, rfl, rfl, by decide +kernel, rfl, by decide +kernel, by decide +kernel⟩
theorem nd_News___init__ : N_News___init__.Nodup := sc_News___init__.nd
theorem bd_News___init__ : BindH "__init__" "News.__init__" ps_News___init__ sNews___init__ := fun _ _ _ _ _ _ us hl => match us, hl with | [_, _, _], _ => rfl
theorem ok_News___init__ {P : Program} {w : World} {mg : Str → Option Value} {base : Heap} {g : Gb} (c : Txt g mg base) : MOk P w g.K mg base 5 "News" "__init__" ps_News___init__ (spInit g "News" (S_NewsI g)) := by
  have tx := txt_tx c
  obtain ⟨_, kk_MOST_MESSAGES⟩ := k_MOST_MESSAGES c
  refine MOk.raw (h_News___init__ c) (cl_News c) sc_News___init__ bd_News___init__ (fun vs H Q E h => ?_) fun cdv A outer s H E hr => ⟨_, (pss_cons (ps_if (PW.pt (pw_or (pt_not (pt_val (pe_callB (cIsi g.K) (by rfl) tx.isinstance bt_isinstance (pa_cons (pv 2) (pa_cons (pe_bltn (v := .ty "list") (by rfl) tx.list bt_list rfl) pa_nil))))) (pw_or1 (pt_cmpR op_gt (pe_callB (cLen g.K) (by rfl) tx.len bt_len (pa_cons (pv 2) pa_nil)) (pe_glob (v := .int 3) rfl kk_MOST_MESSAGES ⟨_, rfl⟩) (nomark _))))) (pss_one ps_never) pss_nil)
    (pss_cons (ps_for PassesOwn.never rfl (piEnum g.K tx.enumerate (pa_cons (pv 2) pa_nil)) (pgT g.K 2 (pgs_cons (pg_name (i := 3) nd_News___init__ rfl (Or.inl rfl)) (pgs_cons (pg_name (i := 4) nd_News___init__ rfl (Or.inl rfl)) pgs_nil))) (pss_one (ps_if (pt_not (pt_val (pe_callF (ok_is_message c) (hr.mono (by decide)) (pa_cons (pv 1) (pa_cons (pv 4) pa_nil))))) (pss_one ps_never) pss_nil)))
    (pss_cons (ps_fld (pv 0) (pv 1) (by rfl))
    (pss_cons (ps_fld (pv 0) (pe_callTy (cList g.K) (by rfl) tx.list bt_list (pa_cons (pv 2) pa_nil)) (by rfl))
    (pss_one (ps_fld (pv 0) (pe_lc rfl nd_News___init__ (piL g.K (pv 2)) (blkOk_by (own := [("knowing", 5), ("pieces", 6)]) (N := N_News___init__) (sc := defScope sNews___init__) (by decide +kernel)) (fun _ _ _ _ _ => (pgT g.K 2 (pgs_cons (pg_name (i := 5) nd_News___init__ rfl (Or.inl rfl)) (pgs_cons (pg_name (i := 6) nd_News___init__ rfl (Or.inl rfl)) pgs_nil)))) (fun _ _ _ _ _ => pts_nil) (fun _ _ _ _ _ => (pe_callF (ok_reached c) (hr.mono (by decide)) (pa_cons (pv 1) (pa_cons (pv 5) pa_nil))))) (by rfl))))))), ?_⟩
  · obtain ⟨lf, F, H, x, dx, us, xs, P, rfl, _, a, ⟨h, rs, ms, rfl, _⟩, _⟩ := h
    rw [List.length_cons, a.length]
    rfl
  rintro vs H1 Q E' ⟨lf, F, H0, x, dx, us, xs, P, rfl, w, a, ⟨h, rs, ms, rfl, ok, hP⟩, hx, hdx, hne, rfl, hQ⟩
  have h6 := ok.net.h6
  have hm := ok.few
  have I := ist_start (N := N_News___init__) (C := He.ga g.K "News") w a (fun x hx => by
    rcases List.mem_cons.mp hx with e | e
    · rw [e]; rfl
    · rw [List.mem_singleton.mp e]; rfl) hx hdx hne
  refine rq_if I.E (b := _) (eb_or (eb_not (eb_test (ev_isi (ev_var rfl) rfl rfl))) fun _ => eb_test (ev_gt (ev_len (ev_var rfl) rfl) ev_k)) ?_ fun F1 H1 E1 r1 => ?_
  · have e1 : (ms.map msgD).length = ms.length := List.length_map _
    simp [e1]
    omega
  have I1 := I.next rfl r1 E1 rfl
  refine rq_for (js := [3, 4]) I1.E (it_enumR (l := ms) (enc := msgD) ([], 0) (ev_var rfl)) (fun i d hd => ?_) fun σ2 F2 H2 E2 r2 hσ => ?_
  · rw [List.getElem?_map] at hd
    by_cases hi : i < ms.length
    · rw [List.getElem?_range hi] at hd
      obtain rfl : d = .tuple [.int (i : Int), msgD (md ms i)] := (Option.some.inj hd).symm
      refine ⟨_, tg_tup (tgs_cons tg_d (tgs_cons tg_d tgs_nil)) rfl, ?_, rfl, fun j y hj => ?_⟩
      · exact (eb_not (eb_test (ev_call (ea_cons (ev_var rfl) (ea_cons (ev_var rfl) ea_nil)) ⟨h, rs, md ms i, rfl, h6, ok.msg _ (md_mem hi), rfl⟩))).is rfl
      match j, hj with
      | 0, hj => cases hj
      | 1, hj => exact hj
      | 2, hj => exact hj
      | 3, hj => cases hj
      | 4, hj => cases hj
      | 5, hj => cases hj
      | 6, hj => cases hj
      | j + 7, hj => cases hj
    · rw [List.getElem?_eq_none (by rw [List.length_range]; omega)] at hd
      cases hd
  have I2 := I1.next rfl r2 E2 (hσ 0 (by decide))
  refine rq_fld I2 (cl_News c) (na_News_net c) (by decide) (ev_var (i := 1) rfl) fun v1 F3 H3 y3 r3 rx3 p3 I3 => ?_
  refine rq_fld I3 (cl_News c) (na_News_told c) (by show 1 < 1000; decide) (ev_listS (ds := ms.map msgD) (ev_var rfl) rfl) fun v2 F4 H4 y4 r4 rx4 p4 I4 => ?_
  refine fld_step I4 (cl_News c) (na_News_heard c) (by show 2 < 1000; decide) (ev_lcA (l := ms) (enc := msgD) (f := fun m : Msg => tupN (heardL rs m.1)) (it_list (ev_var rfl)) (by omega) fun m hm2 => ⟨_, _, tg_tup (tgs_cons tg_d (tgs_cons tg_d tgs_nil)) rfl, by decide, ev_call (ea_cons (ev_var rfl) (ea_cons (ev_var rfl) ea_nil)) ⟨h, rs, m.1, rfl, ok.net.r6, ok.net.many, (ok.msg m hm2).1.nd, (ok.msg m hm2).1.v6 h6, rfl⟩⟩) fun v3 F5 H5 y5 r5 rx5 p5 I5 => ?_
  subst p3 p4 p5
  obtain ⟨gr, sm⟩ := I5.done
  obtain ⟨n, rfl, q1⟩ := (show ∃ n, v1 = .ref n ∧ NetAt g.K F3 n h (rdsL rs) from rx3)
  have q2 : Dq F4 v2 (.list (ms.map msgD)) := rx4
  have q3 : Dq F5 v3 (.list (ms.map fun m : Msg => tupN (heardL rs m.1))) := rx5
  refine hQ _ _ gr (hP _ x ⟨dx, n, v2, v3, upd_same, ((q1.mono r4.ff).mono r5.ff).mono sm, (q2.mono r5.ff).mono sm, ?_⟩)
  have e1 : ((ms.map fun m : Msg => heardL rs m.1).map tupN) = ms.map fun m : Msg => tupN (heardL rs m.1) := by rw [List.map_map]; rfl
  rw [e1]
  exact q3.mono sm
end TB
set_option Elab.async false
set_option linter.all false
set_option autoImplicit false
set_option maxRecDepth 100000
set_option maxHeartbeats 4000000
namespace TB
open PySem PySem.Spec PyProof.Rows L2
inductive Inn (h at_ : Nat) : List Road → List Stm → List Rwx → List Road → List Stm → Prop
  | done {rs : List Road} {ss : List Stm} {s : Stm} : ss[at_]? = some s → s.2.2 ≤ 0 → Inn h at_ rs ss [] rs ss
  | step {rs rs2 : List Road} {ss ss2 : List Stm} {s : Stm} {f : List Nat} {t : Int} {rows : List Rwx} : ss[at_]? = some s → 0 < s.2.2 → Gn rs s.2.1 (sparesM h rs ss) s.1 f → IsMin t (boundsL rs (sparesM h rs ss) s (srtN f) (sparesM h rs ss).length) →
      f.length ≤ 1000 → (∀ a ∈ f, a < rs.length) → (∀ m, m < (sparesM h rs ss).length → 0 < manyR rs (srtN f) s m → CDivW ((sparesM h rs ss).getD m 0) (manyR rs (srtN f) s m)) →
      Inn h at_ (narrow rs (srtN f) t) (ss.set at_ (s.1, s.2.1, s.2.2 - t)) rows rs2 ss2 → Inn h at_ rs ss ((srtN f, t) :: rows) rs2 ss2
inductive Out (h : Nat) : Nat → List Road → List Stm → List (List Rwx) → Prop
  | done {a : Nat} {rs : List Road} {ss : List Stm} : ss.length ≤ a → Out h a rs ss []
  | step {a : Nat} {rs rs2 : List Road} {ss ss2 : List Stm} {rows : List Rwx} {rest : List (List Rwx)} : a < ss.length → Inn h a rs ss rows rs2 ss2 → Out h (a + 1) rs2 ss2 rest → Out h a rs ss (rows :: rest)
theorem Inn.len {h a : Nat} {rs rs2 : List Road} {ss ss2 : List Stm} {rows : List Rwx} (x : Inn h a rs ss rows rs2 ss2) : ss2.length = ss.length ∧ rs2.length = rs.length := by
  induction x with
  | done _ _ => exact ⟨rfl, rfl⟩
  | step _ _ _ _ _ _ _ _ ih =>
    rw [ih.1, ih.2, List.length_set]
    unfold narrow
    rw [List.length_map, List.length_range]
    exact ⟨rfl, rfl⟩
theorem Out.len {h a : Nat} {rs : List Road} {ss : List Stm} {res : List (List Rwx)} (x : Out h a rs ss res) : a + res.length = max a ss.length := by
  induction x with
  | done h => simp; omega
  | step h i _ ih =>
    have := i.len.1
    simp at ih ⊢
    omega
section
variable {g : Gb} {e : En} {σ : St} {F H F' H' : Hp} {ρ : Rho}
/-- private lists may be told to a callee as data -/
def frzF (S : Addr → Bool) (F H : Hp) : Hp := fun b => if S b = true then H b else F b
def unfF (S : Addr → Bool) (F : Hp) : Hp := fun b => if S b = true then none else F b
structure Prv (g : Gb) (e : En) (S : Addr → Bool) : Prop where
  h : ∀ b, S b = true → (∃ xs, e.H0 b = some (.lst xs)) ∧ e.F0 b = none ∧ b ≠ g.T ∧ e.lf ≠ some b
theorem Prv.at {S : Addr → Bool} (p : Prv g e S) (E : Ew g e σ F H ρ) {b : Addr} (hb : S b = true) {o : HO} (ho : e.H0 b = some o) : H b = some o ∧ F b = none := by
  obtain ⟨_, h2, h3, h4⟩ := p.h b hb
  exact ⟨E.gr.hh b o h3 h4 ho, E.gr.nw b o h2 ho⟩
theorem Prv.wl {S : Addr → Bool} (p : Prv g e S) (E : Ew g e σ F H ρ) : Wl g e.lf (frzF S F H) H := by
  refine ⟨fun b u hb => ?_, E.wl.tab, ?_, fun l hl => ?_, E.wl.one⟩
  · unfold frzF at hb
    split at hb
    · exact hb
    · exact E.wl.same b u hb
  · unfold frzF
    rw [if_neg (fun z => (p.h _ z).2.2.1 rfl)]
    exact E.wl.fT
  · obtain ⟨f1, r⟩ := E.wl.feed l hl
    refine ⟨?_, r⟩
    unfold frzF
    rw [if_neg (fun z => (p.h _ z).2.2.2 hl)]
    exact f1
theorem Prv.sub {S : Addr → Bool} (p : Prv g e S) (E : Ew g e σ F H ρ) : Same F (frzF S F H) := fun b u hb => by
  unfold frzF
  split
  · rename_i hs
    obtain ⟨⟨xs, hx⟩, _⟩ := p.h b hs
    rw [(p.at E hs hx).2] at hb
    cases hb
  · exact hb
theorem Prv.back {S : Addr → Bool} (p : Prv g e S) (E : Ew g e σ F H ρ) (r : Gr g e.lf (frzF S F H) H F' H') : Gr g e.lf F H (unfF S F') H' := by
  have keep : ∀ b, S b = false → frzF S F H b = F b := fun b hb => by unfold frzF; rw [hb]; rfl
  refine ⟨fun b u hb => ?_, r.hh, ⟨fun b u hb => ?_, r.wl.tab, ?_, fun l hl => ?_, r.wl.one⟩, fun b u h1 h2 => ?_⟩
  · unfold unfF
    split
    · rename_i hs
      obtain ⟨⟨xs, hx⟩, _⟩ := p.h b hs
      rw [(p.at E hs hx).2] at hb
      cases hb
    · exact r.ff b u (p.sub E b u hb)
  · unfold unfF at hb
    split at hb
    · cases hb
    · exact r.wl.same b u hb
  · unfold unfF
    split
    · rfl
    · exact r.wl.fT
  · obtain ⟨f1, q⟩ := r.wl.feed l hl
    refine ⟨?_, q⟩
    unfold unfF
    split
    · rfl
    · exact f1
  · unfold unfF
    split
    · rfl
    · rename_i hs
      exact r.nw b u (by rw [keep b (by simpa using hs)]; exact h1) h2
/-- a list of ints is none of them -/
theorem unf_ints {S : Addr → Bool} {v : V} {ns : List Int} (h : Dq F' v (intL ns)) (hS : ∀ b, S b = true → F' b ≠ some (.lst (ns.map V.int))) : Dq (unfF S F') v (intL ns) := by
  obtain ⟨a, vs, rfl, h1, h2⟩ := Dq.lst_of h
  rw [h2.ints] at h1
  refine Dq.lst (xs := ns.map V.int) ?_ (DqAll.of_ints ns)
  unfold unfF
  rw [if_neg (fun z => hS a z h1)]
  exact h1
theorem Ew.setNone (E : Ew g e σ F H ρ) (i : Nat) (v : V) : Ew g e (σ.set i (some v)) F H (ρ.set i none) := by
  have key : ∀ (j : Nat) x, (ρ.set i none)[j]? = some (some x) → i ≠ j ∧ ρ[j]? = some (some x) := fun j x h => by
    by_cases hj : i = j
    · subst hj
      by_cases hi : i < ρ.length
      · rw [List.getElem?_set_self hi] at h
        cases h
      · rw [List.getElem?_eq_none (by rw [List.length_set]; omega)] at h
        cases h
    · rw [List.getElem?_set_ne hj] at h
      exact ⟨hj, h⟩
  refine ⟨E.gr, E.w0, by rw [List.length_set, List.length_set]; exact E.ln, fun j x h => ?_, fun j k xs ys hjk h1 h2 => ?_⟩
  · obtain ⟨n, q⟩ := key j x h
    rw [List.getElem?_set_ne n]
    exact E.bd j x q
  · obtain ⟨n1, q1⟩ := key j _ h1
    obtain ⟨n2, q2⟩ := key k _ h2
    rw [List.getElem?_set_ne n1, List.getElem?_set_ne n2]
    exact E.dj j k xs ys hjk q1 q2
/-- a private list is written -/
theorem Ew.poke (E : Ew g e σ F H ρ) {l : Addr} {xs ys : List V} (h0 : e.H0 l = some (.lst xs)) (hf : e.F0 l = none) (hT : l ≠ g.T) (hl : e.lf ≠ some l) : Ew g ⟨e.lf, e.F0, upd e.H0 l (.lst ys)⟩ σ F (upd H l (.lst ys)) ρ := by
  have hh := E.gr.hh l _ hT hl h0
  have hF := E.gr.nw l _ hf h0
  refine ⟨⟨E.gr.ff, fun a o h1 h2 h3 => ?_, E.wl.write hh hF hl, fun a o h1 h2 => ?_⟩, E.w0.write h0 hf hl, E.ln, fun i x h => ?_, E.dj⟩
  · have h3' : upd e.H0 l (.lst ys) a = some o := h3
    by_cases ha : a = l
    · rw [ha, upd_same] at h3' ⊢
      exact h3'
    · rw [upd_ne ha] at h3' ⊢
      exact E.gr.hh a o h1 h2 h3'
  · by_cases ha : a = l
    · rw [ha]
      exact hF
    · have h2' : upd e.H0 l (.lst ys) a = some o := h2
      rw [upd_ne ha] at h2'
      exact E.gr.nw a o h1 h2'
  · obtain ⟨v, hv, r⟩ := E.bd i x h
    refine ⟨v, hv, ?_⟩
    cases x with
    | own ds =>
      obtain ⟨p, vs, e1, o, q⟩ := r
      have ne : p ≠ l := fun z => by
        have := o.h0
        rw [z, h0] at this
        cases this
      exact ⟨p, vs, e1, ⟨o.f, by show upd e.H0 l (.lst ys) p = none; rw [upd_ne ne]; exact o.h0, o.T, o.lf, by rw [upd_ne ne]; exact o.h⟩, q⟩
    | d x => exact r
    | net n rs => exact r
    | news n rs ms hs => exact r
    | feed => exact r
/-- new lists, one for each -/
structure Fresh (g : Gb) (lf : Option Addr) (H H' : Hp) (ls : List Addr) (xss : List (List V)) : Prop where
  len : ls.length = xss.length
  nd : ls.Nodup
  at_ : ∀ (k : Nat) l xs, ls[k]? = some l → xss[k]? = some xs → H l = none ∧ H' l = some (.lst xs)
theorem Fresh.mono {lf : Option Addr} {H2 : Hp} {ls : List Addr} {xss : List (List V)} (f : Fresh g lf H H' ls xss) (h : ∀ a o, H a = none → H' a = some o → H2 a = some o) : Fresh g lf H H2 ls xss :=
  ⟨f.len, f.nd, fun k l xs h1 h2 => by
    obtain ⟨a, b⟩ := f.at_ k l xs h1 h2
    exact ⟨a, h l _ a b⟩⟩
theorem lc_lists {K : PySem.W.Frag} {te : TE} {i : Nat} {dss : List (List PyData)} {Q : VK} (E : Ew g e σ F H ρ) (hw : Ev g te ρ (.d (.list (dss.map PyData.list)))) (hi : i < ρ.length) (hz : dss.length ≤ 1000)
    (k : ∀ a ls F1 H1 (xss : List (List V)), Gr g e.lf F H F1 H1 → H a = none → H1 a = some (.lst (ls.map V.ref)) → F1 a = none → a ∉ ls → Fresh g e.lf H H1 ls xss → (∀ l ∈ ls, F1 l = none) → xss.length = dss.length → (∀ (k : Nat) xs ds, xss[k]? = some xs → dss[k]? = some ds → DqAll F1 xs ds) → Q (.ref a) H1) :
    tLc (iList K te) (gName i) tYes (tCB (rListS K) (tCons (tVar i) tNil)) [i] σ H Q := hw e σ F H E _ fun v F1 H1 y r1 rx py => by
  subst py
  obtain ⟨a, vs, rfl, ha, hq0⟩ := Dq.lst_of rx
  refine ⟨a, rfl, ⟨vs, SqL.of (r1.wl.same _ _ ha)⟩, ?_⟩
  intro D hD
  have vlen := hq0.length
  rw [List.length_map] at vlen
  have E1 := E.grow r1
  have r2 : Gr g e.lf F1 H1 F1 (upd H1 D (.lst [])) := Gr.newH E1.wl hD
  have back : ∀ b, H1 b = none → H b = none := fun b hb => by
    cases q : H b with
    | none => rfl
    | some o =>
      have := r1.hh b o (r1.wl.T_ne hb) (r1.wl.lf_ne hb) q
      rw [hb] at this
      cases this
  refine lc_it (walk_list (K := K) (a := a) (xs := vs)) (fun i' H' => ∃ ls xss, Gr g e.lf F1 H1 F1 H' ∧ H' D = some (.lst (ls.map V.ref)) ∧ D ∉ ls ∧ Fresh g e.lf H1 H' ls xss ∧ xss.length = i' ∧ (∀ (k : Nat) xs ds, xss[k]? = some xs → dss[k]? = some ds → DqAll F1 xs ds)) ⟨[], [], r2, upd_same, by simp, ⟨rfl, List.nodup_nil, fun k l xs h => by cases h⟩, rfl, fun k xs ds h => by cases h⟩ (fun i' H' hi' p => ?_) (fun i' x H' H3 hi' p y => ?_) fun H' p => ?_
  · obtain ⟨ls, xss, r, _⟩ := p
    exact SqL.of (r.wl.same _ _ ha)
  · obtain ⟨ls, xss, r, hDl, nD, fr, hlen, hq⟩ := p
    obtain ⟨e3, hx⟩ := y
    subst e3
    have hdi : dss[i']? = some dss[i'] := List.getElem?_eq_getElem (by omega)
    have hdx : Dq F1 x (.list dss[i']) := hq0.got hx (by rw [List.getElem?_map, hdi]; rfl)
    obtain ⟨b, us, rfl, hb, hbq⟩ := Dq.lst_of hdx
    have hσ : i < σ.length := by rw [E.ln]; exact hi
    refine ⟨?_, ?_⟩
    · refine wipe_eq (by rw [List.length_set, wipe_length]) fun j hj => ?_
      have hne : i ≠ j := fun z => hj (by rw [z]; exact List.mem_singleton.mpr rfl)
      rw [List.getElem?_set_ne hne, wipe_out hj]
    · simp only [tYes, if_true]
      refine ⟨.ref b, by rw [List.getElem?_set_self (by rw [wipe_length]; exact hσ)], ?_⟩
      refine ⟨b, us, rfl, .inl (SqL.of (r.wl.same _ _ hb)), fun p hp => ?_⟩
      have r3 := r.trans r1.wl (Gr.newH (o := .lst us) r.wl hp)
      have pD : p ≠ D := fun z => by rw [z, hDl] at hp; cases hp
      have hp1 : H1 p = none := by
        cases q : H1 p with
        | none => rfl
        | some o =>
          have := r.hh p o (r.wl.T_ne hp) (r.wl.lf_ne hp) q
          rw [hp] at this
          cases this
      have hDT : D ≠ g.T := r1.wl.T_ne hD
      have hDl2 : e.lf ≠ some D := r1.wl.lf_ne hD
      have pnl : p ∉ ls := fun z => by
        obtain ⟨k, hk⟩ := List.mem_iff_getElem?.mp z
        have kl : k < xss.length := by rw [← fr.len]; exact (List.getElem?_eq_some_iff.mp hk).1
        have := (fr.at_ k p _ hk (List.getElem?_eq_getElem kl)).2
        rw [hp] at this
        cases this
      have e1 : (upd H3 p (.lst us)) D = some (.lst (ls.map V.ref)) := by rw [upd_ne (Ne.symm pD)]; exact hDl
      refine ⟨_, e1, ?_, ls ++ [p], xss ++ [us], ?_, by rw [upd_same, List.map_append]; rfl, ?_, ⟨?_, ?_, fun k l xs h1 h2 => ?_⟩, by rw [List.length_append, hlen]; rfl, fun k xs ds h1 h2 => ?_⟩
      · rw [List.length_map, fr.len, hlen]
        exact Nat.lt_of_lt_of_le (show i' < 1001 by omega) (by decide)
      · refine ⟨r3.ff, fun c o h1 h2 h3 => ?_, r3.wl.write e1 (r.wl.F_none hp |> fun _ => r1.wl.F_none hD) hDl2, r3.nw⟩
        rw [upd_ne (ne_of_none h3 hD)]
        exact r3.hh c o h1 h2 h3
      · intro z
        rcases List.mem_append.mp z with z | z
        · exact nD z
        · exact pD (List.mem_singleton.mp z).symm
      · rw [List.length_append, List.length_append, fr.len]
        rfl
      · exact List.nodup_append.mpr ⟨fr.nd, by simp, fun u hu w hw2 z => by
          rw [List.mem_singleton.mp hw2] at z
          exact pnl (by rw [← z]; exact hu)⟩
      · by_cases hk : k < ls.length
        · rw [List.getElem?_append_left hk] at h1
          rw [List.getElem?_append_left (by rw [← fr.len]; exact hk)] at h2
          obtain ⟨q1, q2⟩ := fr.at_ k l xs h1 h2
          have lp : l ≠ p := fun z => pnl (by rw [← z]; exact List.mem_of_getElem? h1)
          have lD : l ≠ D := fun z => nD (by rw [← z]; exact List.mem_of_getElem? h1)
          exact ⟨q1, by rw [upd_ne lD, upd_ne lp]; exact q2⟩
        · rw [List.getElem?_append_right (by omega)] at h1
          rw [List.getElem?_append_right (by rw [← fr.len]; omega)] at h2
          have k0 : k - ls.length = 0 := by
            have := (List.getElem?_eq_some_iff.mp h1).1
            simp at this
            omega
          rw [k0] at h1
          rw [← fr.len, k0] at h2
          cases h1
          cases h2
          exact ⟨hp1, by rw [upd_ne pD, upd_same]⟩
      · by_cases hk : k < xss.length
        · rw [List.getElem?_append_left hk] at h1
          exact hq k xs ds h1 h2
        · rw [List.getElem?_append_right (by omega)] at h1
          have k0 : k - xss.length = 0 := by
            have := (List.getElem?_eq_some_iff.mp h1).1
            simp at this
            omega
          rw [k0] at h1
          cases h1
          have : k = i' := by
            have := (List.getElem?_eq_some_iff.mp h2).1
            omega
          rw [this, hdi] at h2
          cases h2
          exact hbq
  · obtain ⟨ls, xss, r, hDl, nD, fr, hlen, hq⟩ := p
    refine k D ls F1 H' xss (r1.step E r) (back D hD) hDl (r1.wl.F_none hD) nD ⟨fr.len, fr.nd, fun k l xs h1 h2 => ?_⟩ (fun l hl => ?_) (by rw [hlen, vlen]) hq
    · obtain ⟨q1, q2⟩ := fr.at_ k l xs h1 h2
      exact ⟨back l q1, q2⟩
    · obtain ⟨k, hk⟩ := List.mem_iff_getElem?.mp hl
      have kl : k < xss.length := by rw [← fr.len]; exact (List.getElem?_eq_some_iff.mp hk).1
      exact r1.wl.F_none (fr.at_ k l _ hk (List.getElem?_eq_getElem kl)).1
end
end TB
set_option Elab.async false
set_option linter.all false
set_option autoImplicit false
set_option maxRecDepth 100000
set_option maxHeartbeats 4000000
namespace TB
open PySem PySem.Spec PyProof.Rows L2
def stV (s : Stm) : List V := [.int (s.1 : Int), .int (s.2.1 : Int), .int s.2.2]
structure PrvL (g : Gb) (e : En) (a : Addr) (ls : List Addr) (ss : List Stm) : Prop where
  ha : e.H0 a = some (.lst (ls.map V.ref))
  fa : e.F0 a = none
  aT : a ≠ g.T
  al : e.lf ≠ some a
  len : ls.length = ss.length
  nd : ls.Nodup
  na : a ∉ ls
  at_ : ∀ (k : Nat) l s, ls[k]? = some l → ss[k]? = some s → e.H0 l = some (.lst (stV s)) ∧ e.F0 l = none ∧ l ≠ g.T ∧ e.lf ≠ some l
section
variable {g : Gb} {e : En} {σ : St} {F H F' H' : Hp} {ρ : Rho} {a : Addr} {ls : List Addr} {ss : List Stm}
def setS (a : Addr) (ls : List Addr) : Addr → Bool := fun b => decide (b = a) || decide (b ∈ ls)
theorem PrvL.prv (p : PrvL g e a ls ss) : Prv g e (setS a ls) := ⟨fun b hb => by
  unfold setS at hb
  simp only [Bool.or_eq_true, decide_eq_true_eq] at hb
  rcases hb with rfl | hb
  · exact ⟨⟨_, p.ha⟩, p.fa, p.aT, p.al⟩
  · obtain ⟨k, hk⟩ := List.mem_iff_getElem?.mp hb
    have kl : k < ss.length := by rw [← p.len]; exact (List.getElem?_eq_some_iff.mp hk).1
    obtain ⟨h1, h2, h3, h4⟩ := p.at_ k b _ hk (List.getElem?_eq_getElem kl)
    exact ⟨⟨_, h1⟩, h2, h3, h4⟩⟩
theorem PrvL.inA (a : Addr) (ls : List Addr) : setS a ls a = true := by unfold setS; simp
theorem PrvL.inL {a l : Addr} {ls : List Addr} (h : l ∈ ls) : setS a ls l = true := by unfold setS; simp [h]
theorem stV_ints (s : Stm) : stV s = ([(s.1 : Int), (s.2.1 : Int), s.2.2] : List Int).map V.int := rfl
theorem dq_st {F : Hp} {l : Addr} {s : Stm} (h : F l = some (.lst (stV s))) : Dq F (.ref l) (stD s) := Dq.lst h (DqAll.of_ints [(s.1 : Int), (s.2.1 : Int), s.2.2])
theorem dq_sts {F : Hp} : ∀ {ls : List Addr} {ss : List Stm}, ls.length = ss.length → (∀ (k : Nat) l s, ls[k]? = some l → ss[k]? = some s → F l = some (.lst (stV s))) → DqAll F (ls.map V.ref) (ss.map stD)
  | [], [], _, _ => .nil
  | [], _ :: _, h, _ => by cases h
  | _ :: _, [], h, _ => by cases h
  | l :: ls, s :: ss, h, k => .cons (dq_st (k 0 l s rfl rfl)) (dq_sts (by simpa using h) fun j l' s' h1 h2 => k (j + 1) l' s' (by simpa using h1) (by simpa using h2))
/-- the private lists as data -/
theorem PrvL.data (p : PrvL g e a ls ss) (E : Ew g e σ F H ρ) : Dq (frzF (setS a ls) F H) (.ref a) (stsD ss) := by
  have at2 : ∀ b o, setS a ls b = true → e.H0 b = some o → frzF (setS a ls) F H b = some o := fun b o hb ho => by
    unfold frzF
    rw [if_pos hb]
    exact (p.prv.at E hb ho).1
  refine Dq.lst (at2 a _ (PrvL.inA a ls) p.ha) (dq_sts p.len fun k l s h1 h2 => at2 l _ (PrvL.inL (List.mem_of_getElem? h1)) (p.at_ k l s h1 h2).1)
theorem PrvL.data1 (p : PrvL g e a ls ss) (E : Ew g e σ F H ρ) {k : Nat} {l : Addr} {s : Stm} (h1 : ls[k]? = some l) (h2 : ss[k]? = some s) : Dq (frzF (setS a ls) F H) (.ref l) (stD s) := by
  refine dq_st ?_
  unfold frzF
  rw [if_pos (PrvL.inL (List.mem_of_getElem? h1))]
  exact (p.prv.at E (PrvL.inL (List.mem_of_getElem? h1)) (p.at_ k l s h1 h2).1).1
/-- after stream[2] was set -/
theorem PrvL.poke (p : PrvL g e a ls ss) {k : Nat} {l : Addr} {s s' : Stm} (h1 : ls[k]? = some l) (h2 : ss[k]? = some s) : PrvL g ⟨e.lf, e.F0, upd e.H0 l (.lst (stV s'))⟩ a ls (ss.set k s') := by
  have la : l ≠ a := fun z => p.na (by rw [← z]; exact List.mem_of_getElem? h1)
  refine ⟨by show upd e.H0 l (.lst (stV s')) a = _; rw [upd_ne (Ne.symm la)]; exact p.ha, p.fa, p.aT, p.al, by rw [List.length_set]; exact p.len, p.nd, p.na, fun j l' t hj ht => ?_⟩
  by_cases hjk : k = j
  · subst hjk
    rw [h1] at hj
    cases hj
    rw [List.getElem?_set_self (List.getElem?_eq_some_iff.mp h2).1] at ht
    cases ht
    obtain ⟨_, q2, q3, q4⟩ := p.at_ k l s h1 h2
    exact ⟨upd_same, q2, q3, q4⟩
  · rw [List.getElem?_set_ne hjk] at ht
    obtain ⟨q1, q2, q3, q4⟩ := p.at_ j l' t hj ht
    have ne : l' ≠ l := fun z => by
      exact hjk ((List.getElem?_inj (List.getElem?_eq_some_iff.mp h1).1 p.nd).mp (by rw [h1, hj, z]))
    exact ⟨by show upd e.H0 l (.lst (stV s')) l' = _; rw [upd_ne ne]; exact q1, q2, q3, q4⟩
/-- what the loops keep -/
structure GInv (g : Gb) (e0 : En) (a : Addr) (ls : List Addr) (ss : List Stm) (ρ : Rho) (σ : St) (H : Hp) (e : En) (F : Hp) : Prop where
  lf : e.lf = e0.lf
  base : Gr g e0.lf e0.F0 e0.H0 e.F0 e.H0
  E : Ew g e σ F H ρ
  s4 : σ[4]? = some (some (.ref a))
  pv : PrvL g e a ls ss
theorem GInv.gr {e0 : En} (w0 : Wl g e0.lf e0.F0 e0.H0) (I : GInv g e0 a ls ss ρ σ H e F) : Gr g e0.lf e0.F0 e0.H0 F H := I.base.trans w0 (by have := I.E.gr; rw [I.lf] at this; exact this)
theorem GInv.step {e0 : En} {σ' : St} {ρ' : Rho} (I : GInv g e0 a ls ss ρ σ H e F) (E' : Ew g e σ' F' H' ρ') (s4 : σ'[4]? = some (some (.ref a))) : GInv g e0 a ls ss ρ' σ' H' e F' := ⟨I.lf, I.base, E', s4, I.pv⟩
theorem GInv.poke {e0 : En} (w0 : Wl g e0.lf e0.F0 e0.H0) (I : GInv g e0 a ls ss ρ σ H e F) {k : Nat} {l : Addr} {s s' : Stm} (h1 : ls[k]? = some l) (h2 : ss[k]? = some s) (hn : e0.H0 l = none) : GInv g e0 a ls (ss.set k s') ρ σ (upd H l (.lst (stV s'))) ⟨e.lf, e.F0, upd e.H0 l (.lst (stV s'))⟩ F := by
  obtain ⟨q1, q2, q3, q4⟩ := I.pv.at_ k l s h1 h2
  refine ⟨I.lf, I.base.poke hn q1 q2 (by rw [← I.lf]; exact q4) (fun _ z => by cases z) (fun _ z => by cases z) (fun _ z => by cases z), I.E.poke q1 q2 q3 q4, I.s4, I.pv.poke h1 h2⟩
end
theorem raw_app {g : Gb} {e : En} {σ : St} {F H : Hp} {ρ : Rho} {K : PySem.W.Frag} {D : Ends} {te : TE} {i : Nat} {ds : List PyData} {d : PyData} (E : Ew g e σ F H ρ) (hi : ρ[i]? = some (some (.own ds))) (h : Ev g te ρ (.d d)) (hz : ds.length < 1000000)
    (k : ∀ F1 H1, Ew g e σ F1 H1 (ρ.set i (some (.own (ds ++ [d])))) → D.nx σ H1) : tDrop (tBM K "list" rAppend (tVar i) (tCons te tNil)) D σ H := by
  obtain ⟨v, hv, l, vs, e1, o, a⟩ := E.bd i _ hi
  subst e1
  refine ⟨.ref l, hv, .inl ⟨rfl, _, SqL.of o.h⟩, h e σ F H E _ fun u F1 H1 x r1 rx p => ?_⟩
  subst p
  have o1 := o.mono r1
  refine ⟨l, vs, u, rfl, rfl, o1.h, ?_, k F1 _ ((E.grow r1).write hi hv o1.h ((a.mono r1.ff).snoc rx))⟩
  rw [a.length]
  exact Nat.lt_of_lt_of_le hz (by decide)
theorem raw_set {g : Gb} {e : En} {σ : St} {F H : Hp} {ρ : Rho} {D : Ends} {R : TS} {te : TE} {i : Nat} {x : Dx} (E : Ew g e σ F H ρ) (h : Ev g te ρ x) (k : ∀ v F1 H1, Ew g e (σ.set i (some v)) F1 H1 (ρ.set i (some x)) → R D (σ.set i (some v)) H1) (hz : x.fz = true := by rfl) : tSeq (tAsg te (gName i)) R D σ H := h e σ F H E _ fun v F1 H1 y r rx p => by
  subst p
  exact k v F1 H1 ((E.grow r).set rx fun xs z => by rw [z] at hz; cases hz)
def S_grow : SpD := fun xs P => ∃ (h : Nat) (rs : List Road) (ss : List Stm) (res : List (List Rwx)), xs = [.d (.int (h : Int)), .d (rdsD rs), .d (stsD ss)] ∧ 1 ≤ h ∧ h ≤ 6 ∧ rs.length ≤ 12 ∧ (∀ r ∈ rs, r.2.1 < 6) ∧ ss.length ≤ 1000 ∧ Out h 0 rs ss res ∧ (∀ rows ∈ res, rows.length ≤ 1000) ∧ P (.d (.list (res.map rowsD)))
theorem range_get {α : Type} {f : Nat → α} {n i : Nat} {d : α} (h : ((List.range n).map f)[i]? = some d) : i < n ∧ d = f i := by
  by_cases hi : i < n
  · rw [List.getElem?_map, List.getElem?_range hi] at h
    exact ⟨hi, (Option.some.inj h).symm⟩
  · rw [List.getElem?_eq_none (by rw [List.length_map, List.length_range]; omega)] at h
    cases h
theorem narrow_len (rs : List Road) (f : List Nat) (t : Int) : (narrow rs f t).length = rs.length := by unfold narrow; rw [List.length_map, List.length_range]
theorem narrow_ends {rs : List Road} {f : List Nat} {t : Int} (h : ∀ r ∈ rs, r.2.1 < 6) : ∀ r ∈ narrow rs f t, r.2.1 < 6 := fun r hr => by
  obtain ⟨a, ha, rfl⟩ := List.mem_map.mp hr
  exact h (rd rs a) (rd_mem (List.mem_range.mp ha))
theorem spares_len (h : Nat) (rs : List Road) (ss : List Stm) : (sparesM h rs ss).length = 2 ^ h := by unfold sparesM; rw [List.length_map, List.length_range, Nat.one_shiftLeft]
theorem pow_ne3 {h : Nat} (h1 : 1 ≤ h) (h6 : h ≤ 6) : 2 ^ h ≠ 3 ∧ 2 ^ h ≠ 0 ∧ 2 ^ h ≤ 64 := by
  have : h = 1 ∨ h = 2 ∨ h = 3 ∨ h = 4 ∨ h = 5 ∨ h = 6 := by omega
  rcases this with rfl | rfl | rfl | rfl | rfl | rfl <;> decide
abbrev N_grow : List Str := ["houses", "roads", "streams", "rest", "left", "found", "stream", "at", "rows", "spare", "forest", "times"]
abbrev ps_grow : List Str := ["houses", "roads", "streams"]
theorem sc_grow : FnScope N_grow ps_grow (defScope sgrow) := ⟨rfl, rfl, rfl, by decide +kernel, rfl, by decide +kernel, by decide +kernel⟩
theorem nd_grow : N_grow.Nodup := sc_grow.nd
theorem bd_grow : BindH "grow" "grow" ps_grow sgrow := fun _ _ _ _ _ _ us hl => match us, hl with | [_, _, _], _ => rfl
theorem ok_grow {P : Program} {w : World} {mg : Str → Option Value} {base : Heap} {g : Gb} (c : Txt g mg base) : FOk P w g.K mg base 4 "grow" ps_grow (spOf g S_grow) := by
  have tx := txt_tx c
  refine FOk.mk' (h_grow c) sc_grow bd_grow (by intro xs Q h; unfold S_grow at h; (repeat' (rcases h with ⟨_, h⟩)); subst_vars; rfl) fun cdv A outer s H E hr => ⟨_, (pss_cons (ps_par3 (i := 3) (j := 4) (l := 5) rfl nd_grow rfl rfl rfl (by decide) (by decide) (by decide) rfl rfl rfl (pa_cons (pe_callTy (cList g.K) (by rfl) tx.list bt_list (pa_cons (pv 1) pa_nil)) (pa_cons (pe_lc rfl nd_grow (piL g.K (pv 2)) (blkOk_by (own := [("stream", 6)]) (N := N_grow) (sc := defScope sgrow) (by decide +kernel)) (fun _ _ _ _ _ => (pg_name (i := 6) nd_grow rfl (Or.inl rfl))) (fun _ _ _ _ _ => pts_nil) (fun _ _ _ _ _ => (pe_callTy (cList g.K) (by rfl) tx.list bt_list (pa_cons (pv 6) pa_nil)))) (pa_cons (pe_lst pa_nil) pa_nil))) (by rfl))
    (pss_cons (ps_for PassesOwn.never rfl (pi_range1 rfl tx.range (pa_cons (pe_callB (cLen g.K) (by rfl) tx.len bt_len (pa_cons (pv 4) pa_nil)) pa_nil)) (pg_name (i := 7) nd_grow rfl (Or.inl rfl)) (pss_cons (ps_par (i := 6) (j := 8) rfl nd_grow rfl rfl (by decide) rfl rfl (pa_cons (pe_ix (ixL g.K) (pv 4) (pv 7) (fun _ _ => rfl)) (pa_cons (pe_lst pa_nil) pa_nil)) (by rfl))
    (pss_cons (ps_while PassesOwn.never (pt_cmpR op_gt (pe_ix (ixL g.K) (pv 6) pe_int (fun _ _ => rfl)) pe_int (nomark _)) (pss_cons (ps_set (i := 9) nd_grow rfl (Or.inl rfl) (pe_callF (ok_spares c) (hr.mono (by decide)) (pa_cons (pv 0) (pa_cons (pv 3) (pa_cons (pv 4) pa_nil)))))
    (pss_cons (ps_set (i := 10) nd_grow rfl (Or.inl rfl) (pe_callF (ok_grown c) (hr.mono (by decide)) (pa_cons (pv 3) (pa_cons (pv 9) (pa_cons (pe_ix (ixL g.K) (pv 6) pe_int (fun _ _ => rfl)) (pa_cons (pe_ix (ixL g.K) (pv 6) pe_int (fun _ _ => rfl)) pa_nil))))))
    (pss_cons (ps_set (i := 11) nd_grow rfl (Or.inl rfl) (pe_callF (ok_most_times c) (hr.mono (by decide)) (pa_cons (pv 3) (pa_cons (pv 9) (pa_cons (pv 6) (pa_cons (pv 10) pa_nil))))))
    (pss_cons (ps_set (i := 3) nd_grow rfl (Or.inl rfl) (pe_callF (ok_narrowed c) (hr.mono (by decide)) (pa_cons (pv 3) (pa_cons (pv 10) (pa_cons (pv 11) pa_nil)))))
    (pss_cons (ps_augS (pv 6) pe_int (pget_list g.K) (pv 11) ip_sub set_list)
    (pss_one (ps_expr (pe_bm PySem.F.plainAttrs_list PySem.F.slot_list_append PySem.F.type_list_append mt_append (pv 8) (pa_cons (pe_tup (pa_cons (pv 10) (pa_cons (pv 11) pa_nil))) pa_nil))))))))))
    (pss_one (ps_expr (pe_bm PySem.F.plainAttrs_list PySem.F.slot_list_append PySem.F.type_list_append mt_append (pv 5) (pa_cons (pv 8) pa_nil)))))))
    (pss_one (ps_ret (pv 5))))), ?_⟩
  rintro xs Q ⟨h, rs, ss, res, rfl, h1, h6, hrl, hre, hsl, hO, hrows, hQ⟩
  obtain ⟨p3, p0, p64⟩ := pow_ne3 h1 h6
  intro e0 σ F H D E w
  refine (ev_listS (K := g.K) (ev_var rfl) rfl : Ev g _ (startR N_grow [.d (.int (h : Int)), .d (rdsD rs), .d (stsD ss)]) (.d (rdsD rs))) e0 σ F H E _ fun v3 F1 H1 y r1 rx1 p1 => ?_
  subst p1
  have estr : stsD ss = .list ((ss.map fun s : Stm => ([.int (s.1 : Int), .int (s.2.1 : Int), .int s.2.2] : List PyData)).map PyData.list) := by
    unfold stsD
    rw [List.map_map]
    rfl
  refine lc_lists (dss := ss.map fun s : Stm => ([.int (s.1 : Int), .int (s.2.1 : Int), .int s.2.2] : List PyData)) (E.grow r1) ((ev_var rfl : Ev g (tVar 2) _ (.d (stsD ss))).is (by rw [← estr])) (by simp [startR]) (by rw [List.length_map]; exact hsl) fun a ls F2 H2 xss r2 ha0 ha fa na fr fls hxl hxd => ?_
  refine ⟨Nat.zero_le _, fun p hp => ⟨_, _, _, rfl, ?_⟩⟩
  have E2 := (E.grow r1).grow r2
  have w2 : Wl g e0.lf F2 H2 := E2.wl
  have hfz : ∀ (i : Nat) x, (startR N_grow [.d (.int (h : Int)), .d (rdsD rs), .d (stsD ss)])[i]? = some (some x) → x.fz = true := fun i x hx => by
    match i, hx with
    | 0, hx => cases hx; rfl
    | 1, hx => cases hx; rfl
    | 2, hx => cases hx; rfl
    | i + 3, hx =>
      have : i < 9 := by
        have := (List.getElem?_eq_some_iff.mp hx).1
        simp [startR] at this
        omega
      have e : i = 0 ∨ i = 1 ∨ i = 2 ∨ i = 3 ∨ i = 4 ∨ i = 5 ∨ i = 6 ∨ i = 7 ∨ i = 8 := by omega
      rcases e with rfl | rfl | rfl | rfl | rfl | rfl | rfl | rfl | rfl <;> cases hx
  have Eb : Ew g ⟨e0.lf, F2, H2⟩ σ F2 H2 _ := E2.rebase rfl hfz w2
  have Eb3 := (Eb.set (i := 3) (x := .d (rdsD rs)) (Rx.mono (e := ⟨e0.lf, F2, H2⟩) (x := .d (rdsD rs)) r2 rx1) (fun _ z => nomatch z)).setNone 4 (.ref a)
  have rp : Gr g e0.lf F2 H2 F2 (upd H2 p (.lst [])) := Gr.newH w2 hp
  have Ec := (Eb3.grow rp).setOwn (i := 5) (l := p) (vs := []) (ds := []) ⟨w2.F_none hp, hp, w2.T_ne hp, w2.lf_ne hp, upd_same⟩ .nil fun j ys _ hj z => by
    obtain ⟨u, hu, l, us, e1, o2, _⟩ := Eb3.bd j _ hj
    rw [e1] at hu
    rw [z] at hu
    cases hu
    have := o2.h
    rw [hp] at this
    cases this
  have hx : ∀ (k : Nat) xs s, xss[k]? = some xs → ss[k]? = some s → xs = stV s := fun k xs s hk hs => by
    have := hxd k xs _ hk (by rw [List.getElem?_map, hs]; rfl)
    exact this.ints (ns := [(s.1 : Int), (s.2.1 : Int), s.2.2])
  rw [List.length_map] at hxl
  have pv : PrvL g ⟨e0.lf, F2, H2⟩ a ls ss := by
    have r12 := r1.trans E.wl r2
    refine ⟨ha, fa, fun z => ?_, fun z => ?_, by rw [fr.len, hxl], fr.nd, na, fun k l s hk hs => ?_⟩
    · obtain ⟨ps, hT⟩ := w2.tbl
      rw [← z, ha] at hT
      cases hT
    · obtain ⟨_, x, y, hh, _⟩ := E.wl.feed a z
      have : H1 a = none := ha0
      obtain ⟨_, x2, y2, hh2, _⟩ := r1.wl.feed a z
      rw [this] at hh2
      cases hh2
    · have kl : k < xss.length := by rw [hxl]; exact (List.getElem?_eq_some_iff.mp hs).1
      obtain ⟨q1, q2⟩ := fr.at_ k l _ hk (List.getElem?_eq_getElem kl)
      rw [hx k _ s (List.getElem?_eq_getElem kl) hs] at q2
      exact ⟨q2, fls l (List.mem_of_getElem? hk), r1.wl.T_ne q1, r1.wl.lf_ne q1⟩
  have hn0 : ∀ l ∈ ls, e0.H0 l = none := fun l hl => by
    obtain ⟨k, hk⟩ := List.mem_iff_getElem?.mp hl
    have kl : k < xss.length := by rw [← fr.len]; exact (List.getElem?_eq_some_iff.mp hk).1
    exact (E.grow r1).h0 (fr.at_ k l _ hk (List.getElem?_eq_getElem kl)).1
  have hσl : σ.length = 12 := by rw [E.ln]; rfl
  have G0 : GInv g e0 a ls ss [some (.d (.int (h : Int))), some (.d (rdsD rs)), some (.d (stsD ss)), some (.d (rdsD rs)), none, some (.own []), none, none, none, none, none, none] (((σ.set 3 (some v3)).set 4 (some (.ref a))).set 5 (some (.ref p))) (upd H2 p (.lst [])) ⟨e0.lf, F2, H2⟩ F2 :=
    ⟨rfl, E2.gr, Ec, by rw [List.getElem?_set_ne (by decide), List.getElem?_set_self (by rw [List.length_set]; omega)], pv⟩
  -- for at in range(len(left))
  refine ⟨.ref a, G0.s4, a, ls.map V.ref, rfl, .inl (SqL.of (Ec.gr.hh a _ pv.aT pv.al pv.ha)), ?_⟩
  have hll : (ls.map V.ref).length = ss.length := by rw [List.length_map, pv.len]
  refine ⟨_, rfl, by omega, by omega, ?_⟩
  rw [hll, Int.toNat_natCast]
  refine for_it (walk_range (lo := 0) (n := ss.length)) (fun i σ' H' => ∃ (rs' : List Road) (ss' : List Stm) (pre rest : List (List Rwx)) (x6 x7 x8 x9 x10 x11 : Option Dx) (e : En) (F' : Hp), Out h i rs' ss' rest ∧ res = pre ++ rest ∧ rs'.length = rs.length ∧ (∀ r ∈ rs', r.2.1 < 6) ∧ ss'.length = ss.length ∧ σ'.length = 12 ∧
    GInv g e0 a ls ss' [some (.d (.int (h : Int))), some (.d (rdsD rs)), some (.d (stsD ss)), some (.d (rdsD rs')), none, some (.own (pre.map rowsD)), x6, x7, x8, x9, x10, x11] σ' H' e F') ⟨rs, ss, [], res, none, none, none, none, none, none, _, _, hO, rfl, rfl, hre, rfl, by simp [hσl], G0⟩ (fun i σ' H' hi p => trivial) (fun i x σ' H' H3 hi p y => ?_) fun σ' H' p => ?_
  · obtain ⟨rs', ss', pre, rest, x6, x7, x8, x9, x10, x11, e, F', hOi, hres, hrl', hre', hsl', hσ', G⟩ := p
    obtain ⟨rfl, rfl⟩ := y
    have elf := G.lf
    cases hOi with
    | done hle => omega
    | step hlt hI hO2 =>
    rename_i rs2 ss2 rows rest'
    have hrw : rows.length ≤ 1000 := hrows rows (by rw [hres]; simp)
    have hpre : pre.length ≤ 1000 := by
      have := hO.len
      rw [hres, List.length_append, List.length_cons] at this
      omega
    obtain ⟨l, hl⟩ : ∃ l, ls[i]? = some l := ⟨_, List.getElem?_eq_getElem (by rw [pv.len]; exact hi)⟩
    have hli : i < (ls.map V.ref).length := by rw [hll]; exact hi
    have s7 := G.E.set (i := 7) (v := .int (0 + (i : Int))) (x := .d (.int (i : Int))) (by rw [Int.zero_add]; exact rx_d (Dq.int _)) (fun _ z => nomatch z)
    have q4 : (σ'.set 7 (some (.int (0 + (i : Int)))))[4]? = some (some (.ref a)) := by rw [List.getElem?_set_ne (by decide)]; exact G.s4
    refine ⟨.ref a, q4, .int (0 + (i : Int)), by rw [List.getElem?_set_self (by omega)], a, ls.map V.ref, 0 + (i : Int), .ref l, rfl, rfl, SqL.of (G.E.gr.hh a _ G.pv.aT G.pv.al G.pv.ha), by rw [Int.zero_add, atI_nat, List.getElem?_map, hl]; rfl, ?_⟩
    refine ⟨Nat.zero_le _, fun p8 hp8 => ⟨_, _, rfl, ?_⟩⟩
    have r8 : Gr g e.lf F' H3 F' (upd H3 p8 (.lst [])) := Gr.newH G.E.wl hp8
    have s6 := s7.setNone 6 (.ref l)
    have Ed := (s6.grow r8).setOwn (i := 8) (l := p8) (vs := []) (ds := []) ⟨G.E.wl.F_none hp8, G.E.h0 hp8, G.E.wl.T_ne hp8, G.E.wl.lf_ne hp8, upd_same⟩ .nil fun j ys _ hj z => by
      obtain ⟨u, hu, l', us, e1, o2, _⟩ := s6.bd j _ hj
      rw [e1] at hu
      rw [z] at hu
      cases hu
      have := o2.h
      rw [hp8] at this
      cases this
    have G1 : GInv g e0 a ls ss' [some (.d (.int (h : Int))), some (.d (rdsD rs)), some (.d (stsD ss)), some (.d (rdsD rs')), none, some (.own (pre.map rowsD)), none, some (.d (.int (i : Int))), some (.own []), x9, x10, x11] (((σ'.set 7 (some (.int (0 + (i : Int))))).set 6 (some (.ref l))).set 8 (some (.ref p8))) (upd H3 p8 (.lst [])) e F' :=
      G.step Ed (by rw [List.getElem?_set_ne (by decide), List.getElem?_set_ne (by decide)]; exact q4)
    have q6 : (((σ'.set 7 (some (.int (0 + (i : Int))))).set 6 (some (.ref l))).set 8 (some (.ref p8)))[6]? = some (some (.ref l)) := by
      rw [List.getElem?_set_ne (by decide), List.getElem?_set_self (by rw [List.length_set]; omega)]
    -- while stream[2] > 0
    refine ⟨fun m σ2 H2 => ∃ (rsA : List Road) (ssA : List Stm) (dn rst : List Rwx) (y9 y10 y11 : Option Dx) (eA : En) (FA : Hp), Inn h i rsA ssA rst rs2 ss2 ∧ rows = dn ++ rst ∧ rsA.length = rs.length ∧ (∀ r ∈ rsA, r.2.1 < 6) ∧ ssA.length = ss.length ∧ σ2.length = 12 ∧ σ2[6]? = some (some (.ref l)) ∧ m = rst.length ∧
      GInv g e0 a ls ssA [some (.d (.int (h : Int))), some (.d (rdsD rs)), some (.d (stsD ss)), some (.d (rdsD rsA)), none, some (.own (pre.map rowsD)), none, some (.d (.int (i : Int))), some (.own (dn.map rwD)), y9, y10, y11] σ2 H2 eA FA,
      ⟨rows.length, rs', ss', [], rows, x9, x10, x11, e, F', hI, rfl, hrl', hre', hsl', by simp [hσ'], q6, rfl, G1⟩, fun m σ2 H2 p => ?_⟩
    obtain ⟨rsA, ssA, dn, rst, y9, y10, y11, eA, FA, hIA, hrowsA, hrlA, hreA, hslA, hσA, hs6, rfl, GA⟩ := p
    obtain ⟨sA, hsA⟩ : ∃ s, ssA[i]? = some s := ⟨_, List.getElem?_eq_getElem (by omega)⟩
    obtain ⟨k1, k2, k3, k4⟩ := GA.pv.at_ i l sA hl hsA
    have hH := GA.E.gr.hh l _ k3 k4 k1
    refine ⟨.ref l, hs6, l, stV sA, 2, .int sA.2.2, rfl, rfl, SqL.of hH, rfl, sA.2.2, 0, rfl, rfl, decide (0 < sA.2.2), rfl, ?_⟩
    cases hIA with
    | done hs hle =>
      rw [hsA] at hs
      cases hs
      rw [decide_eq_false (by omega)]
      refine iteF ?_
      obtain ⟨F3, s3, E3⟩ := GA.E.freeze (i := 8) rfl
      refine raw_app (i := 5) (ds := pre.map rowsD) (d := rowsD dn) E3 rfl (ev_var rfl) (by rw [List.length_map]; omega) fun F4 H4 E4 => ?_
      rw [List.append_nil] at hrowsA
      subst hrowsA
      have e1 : pre.map rowsD ++ [rowsD rows] = (pre ++ [rows]).map rowsD := by rw [List.map_append]; rfl
      rw [e1] at E4
      exact ⟨rs2, ss2, pre ++ [rows], rest', none, some (.d (.int (i : Int))), some (.d (rowsD rows)), y9, y10, y11, eA, F4, hO2, by rw [hres, List.append_assoc]; rfl, hrlA, hreA, hslA, hσA, GA.step E4 GA.s4⟩
    | step hs hpos hGn hmin hfl hfr hdv hI2 =>
      rename_i s' f t rows'
      rw [hsA] at hs
      cases hs
      rw [decide_eq_true hpos]
      have hspl : (sparesM h rsA ssA).length = 2 ^ h := spares_len h rsA ssA
      refine iteT ⟨fun σ3 H3 => ∃ m', m' < ((srtN f, t) :: rows').length ∧ ∃ (rsA : List Road) (ssA : List Stm) (dn rst : List Rwx) (y9 y10 y11 : Option Dx) (eA : En) (FA : Hp), Inn h i rsA ssA rst rs2 ss2 ∧ rows = dn ++ rst ∧ rsA.length = rs.length ∧ (∀ r ∈ rsA, r.2.1 < 6) ∧ ssA.length = ss.length ∧ σ3.length = 12 ∧ σ3[6]? = some (some (.ref l)) ∧ m' = rst.length ∧
        GInv g e0 a ls ssA [some (.d (.int (h : Int))), some (.d (rdsD rs)), some (.d (stsD ss)), some (.d (rdsD rsA)), none, some (.own (pre.map rowsD)), none, some (.d (.int (i : Int))), some (.own (dn.map rwD)), y9, y10, y11] σ3 H3 eA FA, fun σ3 H3 z => z, ?_⟩
      -- spare = spares(houses, rest, left)
      obtain ⟨v0, hv0, rx0⟩ := GA.E.bd 0 _ rfl
      obtain ⟨v3, hv3, rx3⟩ := GA.E.bd 3 _ rfl
      have sub := GA.pv.prv.sub GA.E
      have q0 : Dq FA v0 (.int (h : Int)) := rx0
      have q3 : Dq FA v3 (rdsD rsA) := rx3
      refine ⟨v0, hv0, v3, hv3, .ref a, GA.s4, eA.lf, frzF (setS a ls) FA H2, [.d (.int (h : Int)), .d (rdsD rsA), .d (stsD ssA)], (fun y => y = .d (intL (sparesM h rsA ssA))), GA.pv.prv.wl GA.E, .cons (q0.mono sub) (.cons (q3.mono sub) (.cons (GA.pv.data GA.E) .nil)), ⟨h, rsA, ssA, rfl, h6, by omega, rfl⟩, fun v9 FB HB x rB fxB pB => ?_⟩
      subst pB
      have gB := GA.pv.prv.back GA.E rB
      have dB : Dq (unfF (setS a ls) FB) v9 (intL (sparesM h rsA ssA)) := by
        refine unf_ints fxB fun b hb z => ?_
        unfold setS at hb
        simp only [Bool.or_eq_true, decide_eq_true_eq] at hb
        have fz : ∀ b o, setS a ls b = true → eA.H0 b = some o → FB b = some o := fun b o hb ho => by
          refine rB.ff b o ?_
          unfold frzF
          rw [if_pos hb]
          exact (GA.pv.prv.at GA.E hb ho).1
        rcases hb with rfl | hb
        · rw [fz b _ (PrvL.inA b ls) GA.pv.ha] at z
          have z2 := HO.lst.inj (Option.some.inj z)
          cases hq : sparesM h rsA ssA with
          | nil => rw [hq] at hspl; simp at hspl; omega
          | cons n ns =>
            rw [hq] at z2
            cases hls : ls with
            | nil => rw [hls] at z2; cases z2
            | cons l0 ls0 => rw [hls] at z2; cases z2
        · obtain ⟨kk, hk⟩ := List.mem_iff_getElem?.mp hb
          have kl : kk < ssA.length := by rw [← GA.pv.len]; exact (List.getElem?_eq_some_iff.mp hk).1
          obtain ⟨w1, _⟩ := GA.pv.at_ kk b _ hk (List.getElem?_eq_getElem kl)
          rw [fz b _ (PrvL.inL hb) w1] at z
          have z2 := congrArg List.length (HO.lst.inj (Option.some.inj z))
          rw [List.length_map, hspl] at z2
          exact p3 z2.symm
      have EB := (GA.E.grow gB).set (i := 9) (x := .d (intL (sparesM h rsA ssA))) dB (fun _ z => nomatch z)
      have GB := GA.step EB (by rw [List.getElem?_set_ne (by decide)]; exact GA.s4)
      have s6B : (σ2.set 9 (some v9))[6]? = some (some (.ref l)) := by rw [List.getElem?_set_ne (by decide)]; exact hs6
      clear gB dB EB rB fxB
      -- forest = grown(rest, spare, stream[0], stream[1])
      obtain ⟨u3, hu3, rxu3⟩ := GB.E.bd 3 _ rfl
      obtain ⟨u9, hu9, rxu9⟩ := GB.E.bd 9 _ rfl
      have hHB := GB.E.gr.hh l _ k3 k4 k1
      refine ⟨u3, hu3, u9, hu9, .ref l, s6B, l, stV sA, 0, .int (sA.1 : Int), rfl, rfl, SqL.of hHB, rfl, .ref l, s6B, l, stV sA, 1, .int (sA.2.1 : Int), rfl, rfl, SqL.of hHB, rfl, eA.lf, _, [.d (rdsD rsA), .d (intL (sparesM h rsA ssA)), .d (.int (sA.1 : Int)), .d (.int (sA.2.1 : Int))], (fun y => y = .d (tupN (srtN f))), GB.E.wl, .cons rxu3 (.cons rxu9 (.cons (Dq.int _) (.cons (Dq.int _) .nil))),
        ⟨rsA, _, sA.1, sA.2.1, f, rfl, hGn, hfl, fun r hr => by have := hreA r hr; omega, by omega, rfl⟩, fun v10 FC HC x rC fxC pC => ?_⟩
      subst pC
      have EC := (GB.E.grow rC).set (i := 10) (x := .d (tupN (srtN f))) fxC (fun _ z => nomatch z)
      have GC := GB.step EC (by rw [List.getElem?_set_ne (by decide)]; exact GB.s4)
      have s6C : ((σ2.set 9 (some v9)).set 10 (some v10))[6]? = some (some (.ref l)) := by rw [List.getElem?_set_ne (by decide)]; exact s6B
      -- times = most_times(rest, spare, stream, forest)
      obtain ⟨t3, ht3, rxt3⟩ := GC.E.bd 3 _ rfl
      obtain ⟨t9, ht9, rxt9⟩ := GC.E.bd 9 _ rfl
      obtain ⟨t10, ht10, rxt10⟩ := GC.E.bd 10 _ rfl
      have subC := GC.pv.prv.sub GC.E
      have qt3 : Dq FC t3 (rdsD rsA) := rxt3
      have qt9 : Dq FC t9 (intL (sparesM h rsA ssA)) := rxt9
      have qt10 : Dq FC t10 (tupN (srtN f)) := rxt10
      have hsf : (srtN f).length = f.length := (srtN_perm f).length_eq
      refine ⟨t3, ht3, t9, ht9, .ref l, s6C, t10, ht10, eA.lf, frzF (setS a ls) FC HC, [.d (rdsD rsA), .d (intL (sparesM h rsA ssA)), .d (stD sA), .d (tupN (srtN f))], (fun y => y = .d (.int t)), GC.pv.prv.wl GC.E, .cons (qt3.mono subC) (.cons (qt9.mono subC) (.cons (GC.pv.data1 GC.E hl hsA) (.cons (qt10.mono subC) .nil))),
        ⟨rsA, _, sA, srtN f, t, rfl, hmin, fun b hb => hfr b ((srtN_perm f).mem_iff.mp hb), by omega, by omega, hdv, rfl⟩, fun v11 FD HD x rD fxD pD => ?_⟩
      subst pD
      have v11e : v11 = .int t := Dq.int_eq fxD
      subst v11e
      have gD := GC.pv.prv.back GC.E rD
      have ED := (GC.E.grow gD).set (i := 11) (v := .int t) (x := .d (.int t)) (Dq.int t) (fun _ z => nomatch z)
      have GD := GC.step ED (by rw [List.getElem?_set_ne (by decide)]; exact GC.s4)
      have s6D : (((σ2.set 9 (some v9)).set 10 (some v10)).set 11 (some (.int t)))[6]? = some (some (.ref l)) := by rw [List.getElem?_set_ne (by decide)]; exact s6C
      -- rest = narrowed(rest, forest, times)
      refine raw_set (i := 3) (x := .d (rdsD (narrow rsA (srtN f) t))) GD.E (ev_call (ea_cons (ev_var rfl) (ea_cons (ev_var rfl) (ea_cons (ev_var rfl) ea_nil))) ⟨rsA, srtN f, t, rfl, by omega, rfl⟩) fun v3' FE HE EE => ?_
      have GE := GD.step EE (by rw [List.getElem?_set_ne (by decide)]; exact GD.s4)
      have s6E : ((((σ2.set 9 (some v9)).set 10 (some v10)).set 11 (some (.int t))).set 3 (some v3'))[6]? = some (some (.ref l)) := by rw [List.getElem?_set_ne (by decide)]; exact s6D
      have hHE := GE.E.gr.hh l _ k3 k4 k1
      -- stream[2] -= times
      refine ⟨.ref l, s6E, l, stV sA, 2, .int sA.2.2, rfl, rfl, SqL.of hHE, rfl, .int t, by rw [List.getElem?_set_ne (by decide), List.getElem?_set_self (by simp [hσA])], sA.2.2, t, rfl, rfl, l, stV sA, 2, 2, rfl, rfl, hHE, rfl, ?_⟩
      have GF := GE.poke E.w0 (s' := (sA.1, sA.2.1, sA.2.2 - t)) hl hsA (hn0 l (List.mem_of_getElem? hl))
      -- rows.append((forest, times))
      refine raw_app (i := 8) (ds := dn.map rwD) (d := rwD (srtN f, t)) GF.E rfl (ev_tup (ds := [tupN (srtN f), .int t]) (ea_cons (ev_var rfl) (ea_cons (ev_var rfl) ea_nil)) (by simp)) (by
        have := congrArg List.length hrowsA
        rw [List.length_append] at this
        rw [List.length_map]
        omega) fun FG HG EG => ?_
      have e1 : dn.map rwD ++ [rwD (srtN f, t)] = (dn ++ [(srtN f, t)]).map rwD := by rw [List.map_append]; rfl
      rw [e1] at EG
      exact ⟨rows'.length, Nat.lt_succ_self _, narrow rsA (srtN f) t, ssA.set i (sA.1, sA.2.1, sA.2.2 - t), dn ++ [(srtN f, t)], rows', some (.d (intL (sparesM h rsA ssA))), some (.d (tupN (srtN f))), some (.d (.int t)), _, FG, hI2, by rw [hrowsA, List.append_assoc]; rfl, by rw [narrow_len]; exact hrlA, narrow_ends hreA, by rw [List.length_set]; exact hslA, by simp [hσA], s6E, rfl, GF.step EG GF.s4⟩
  · obtain ⟨rs', ss', pre, rest, x6, x7, x8, x9, x10, x11, e, F', hOi, hres, hrl', hre', hsl', hσ', G⟩ := p
    obtain ⟨F3, s3, E3⟩ := G.E.freeze (i := 5) rfl
    have G3 := G.step E3 G.s4
    obtain ⟨v, hv, rx⟩ := E3.bd 5 _ rfl
    have hrest : rest = [] := by
      cases hOi with
      | done _ => rfl
      | step h _ _ => omega
    subst hrest
    rw [List.append_nil] at hres
    subst hres
    exact ⟨v, hv, w.rt v F3 H' _ (G3.gr E.w0) (rx.fx rfl) hQ⟩
end TB
set_option Elab.async false
set_option linter.all false
set_option autoImplicit false
set_option maxRecDepth 100000
set_option maxHeartbeats 4000000
namespace TB
open PySem PySem.Spec PyProof.Rows L2
def S__law_enters : SpD := fun xs P => ∃ (r : Road) (l : List Nat), xs = [.d (rdD r), .d (tupN l)] ∧ P (.d (.bool (entL r l)))
abbrev N__law_enters : List Str := ["_law_road", "_law_lot_here"]
abbrev ps__law_enters : List Str := ["_law_road", "_law_lot_here"]
theorem sc__law_enters : FnScope N__law_enters ps__law_enters (defScope s_law_enters) := ⟨rfl, rfl, rfl, by decide +kernel, rfl, by decide +kernel, by decide +kernel⟩
theorem nd__law_enters : N__law_enters.Nodup := sc__law_enters.nd
theorem bd__law_enters : BindH "_law_enters" "_law_enters" ps__law_enters s_law_enters := fun _ _ _ _ _ _ us hl => match us, hl with | [_, _], _ => rfl
theorem ok__law_enters {P : Program} {w : World} {mg : Str → Option Value} {base : Heap} {g : Gb} (c : Txt g mg base) : FOk P w g.K mg base 1 "_law_enters" ps__law_enters (spOf g S__law_enters) := by
  have tx := txt_tx c
  refine FOk.mk' (h__law_enters c) sc__law_enters bd__law_enters (by intro xs Q h; unfold S__law_enters at h; (repeat' (rcases h with ⟨_, h⟩)); subst_vars; rfl) fun cdv A outer s H E hr => ⟨_, (pss_one (ps_ret (pe_and (pe_cmpR (opIn g.K) (pe_ix (ixT g.K) (pv 0) pe_int (fun _ _ => rfl)) (pv 1) (by rfl)) (pe_one (pe_cmpR (opNIn g.K) (pe_ix (ixT g.K) (pv 0) pe_int (fun _ _ => rfl)) (pv 1) (by rfl)))))), ?_⟩
  rintro xs Q ⟨r, l, rfl, hQ⟩
  have in0 : Ev g (tVar 0) (startR N__law_enters [.d (rdD r), .d (tupN l)]) (.d (.tuple [.int (r.1 : Int), .int (r.2.1 : Int), .int r.2.2])) := ev_var rfl
  exact st_ret (ev_andV (ev_inN (ev_ixTn in0 (ev_n 1) rfl) (ev_var rfl) rfl) fun _ => ev_ninN (ev_ixTn in0 (ev_n 0) rfl) (ev_var rfl) rfl) hQ
def S__law_flow : SpD := fun xs P => ∃ (rs : List Road) (l : List Nat), xs = [.d (rdsD rs), .d (tupN l)] ∧ rs.length ≤ 1000 ∧ P (.d (.int (flowL rs l)))
abbrev N__law_flow : List Str := ["_law_roads", "_law_lot_here", "_law_road"]
abbrev ps__law_flow : List Str := ["_law_roads", "_law_lot_here"]
theorem sc__law_flow : FnScope N__law_flow ps__law_flow (defScope s_law_flow) := ⟨rfl, rfl, rfl, by decide +kernel, rfl, by decide +kernel, by decide +kernel⟩
theorem nd__law_flow : N__law_flow.Nodup := sc__law_flow.nd
theorem bd__law_flow : BindH "_law_flow" "_law_flow" ps__law_flow s_law_flow := fun _ _ _ _ _ _ us hl => match us, hl with | [_, _], _ => rfl
theorem ok__law_flow {P : Program} {w : World} {mg : Str → Option Value} {base : Heap} {g : Gb} (c : Txt g mg base) : FOk P w g.K mg base 2 "_law_flow" ps__law_flow (spOf g S__law_flow) := by
  have tx := txt_tx c
  refine FOk.mk' (h__law_flow c) sc__law_flow bd__law_flow (by intro xs Q h; unfold S__law_flow at h; (repeat' (rcases h with ⟨_, h⟩)); subst_vars; rfl) fun cdv A outer s H E hr => ⟨_, (pss_one (ps_ret (pe_callB (cSum g.K rfl) (by rfl) tx.sum bt_sum (pa_cons (pe_lc rfl nd__law_flow (piL g.K (pv 0)) (blkOk_by (own := [("_law_road", 2)]) (N := N__law_flow) (sc := defScope s_law_flow) (by decide +kernel)) (fun _ _ _ _ _ => (pg_name (i := 2) nd__law_flow rfl (Or.inl rfl))) (fun _ _ _ _ _ => (pts_one (pt_val (pe_callF (ok__law_enters c) (hr.mono (by decide)) (pa_cons (pv 2) (pa_cons (pv 1) pa_nil)))))) (fun _ _ _ _ _ => (pe_ix (ixT g.K) (pv 2) pe_int (fun _ _ => rfl)))) pa_nil)))), ?_⟩
  rintro xs Q ⟨rs, l, rfl, hl, hQ⟩
  exact st_ret (ev_sum (ev_lc (l := rs) (enc := rdD) (p := fun r => entL r l) (f := fun r : Road => PyData.int r.2.2) (it_list (ev_var rfl)) (by omega) fun r hr => ⟨_, _, tg_d, by decide, eb_test (ev_call (ea_cons (ev_var rfl) (ea_cons (ev_var rfl) ea_nil)) ⟨r, l, rfl, rfl⟩), fun _ => ev_ixTn (ds := [.int (r.1 : Int), .int (r.2.1 : Int), .int r.2.2]) (ev_var rfl) (ev_n 2) rfl⟩) (ns := (rs.filter fun r => entL r l).map fun r : Road => r.2.2) (by rw [List.map_map]; rfl)) hQ
def S__law_meet : SpD := fun xs P => ∃ (a : List Nat) (d : PyData) (b : List Nat), xs = [.d (tupN a), .d d] ∧ isS (.d d) = some (natsL b) ∧ a.length ≤ 1000 ∧ P (.d (.bool (meetB a b)))
abbrev N__law_meet : List Str := ["_law_lot_here", "_law_other", "_law_house"]
abbrev ps__law_meet : List Str := ["_law_lot_here", "_law_other"]
theorem sc__law_meet : FnScope N__law_meet ps__law_meet (defScope s_law_meet) := ⟨rfl, rfl, rfl, by decide +kernel, rfl, by decide +kernel, by decide +kernel⟩
theorem nd__law_meet : N__law_meet.Nodup := sc__law_meet.nd
theorem bd__law_meet : BindH "_law_meet" "_law_meet" ps__law_meet s_law_meet := fun _ _ _ _ _ _ us hl => match us, hl with | [_, _], _ => rfl
theorem ok__law_meet {P : Program} {w : World} {mg : Str → Option Value} {base : Heap} {g : Gb} (c : Txt g mg base) : FOk P w g.K mg base 1 "_law_meet" ps__law_meet (spOf g S__law_meet) := by
  have tx := txt_tx c
  refine FOk.mk' (h__law_meet c) sc__law_meet bd__law_meet (by intro xs Q h; unfold S__law_meet at h; (repeat' (rcases h with ⟨_, h⟩)); subst_vars; rfl) fun cdv A outer s H E hr => ⟨_, (pss_one (ps_ret (pe_cmpR (opNeD g.K hr.units) (pe_lc rfl nd__law_meet (piT g.K (pv 0)) (blkOk_by (own := [("_law_house", 2)]) (N := N__law_meet) (sc := defScope s_law_meet) (by decide +kernel)) (fun _ _ _ _ _ => (pg_name (i := 2) nd__law_meet rfl (Or.inl rfl))) (fun _ _ _ _ _ => (pts_one (pt_cmpR (opIn g.K) (pv 2) (pv 1) (by rfl)))) (fun _ _ _ _ _ => (pv 2))) (pe_lst pa_nil) (nomark _)))), ?_⟩
  rintro xs Q ⟨a, d, b, rfl, hd, hl, hQ⟩
  refine st_ret ((ev_neD (ev_lc (l := a) (enc := fun v : Nat => PyData.int (v : Int)) (p := fun v => decide (v ∈ b)) (f := fun v : Nat => PyData.int (v : Int)) (it_tup (ev_var rfl)) (by omega) fun v hv => ⟨_, _, tg_d, by decide, eb_test (ev_inN (ev_var rfl) (ev_var rfl) hd), fun _ => ev_var rfl⟩) (ev_lst ed_nil) (by rw [filter_nats]; exact (pl_list (n := 0) (pl_nats _)).sh) rfl).is ?_) hQ
  rw [filter_nats, eqv_nil]
  congr 2
  unfold meetB
  rw [Bool.eq_iff_iff, List.any_eq_true]
  simp only [Bool.not_eq_true', decide_eq_false_iff_not, natsL_nil_iff, List.filter_eq_nil_iff]
  constructor
  · intro h
    apply Classical.byContradiction
    intro h2
    exact h fun v hv e => h2 ⟨v, hv, e⟩
  · rintro ⟨v, hv, e⟩ h
    exact h v hv e
theorem lmeet_call {g : Gb} {ta tb : TE} {ρ : Rho} {a b : List Nat} {d : PyData} (ha : Ev g ta ρ (.d (tupN a))) (hb : Ev g tb ρ (.d d)) (hd : isS (.d d) = some (natsL b)) (hl : a.length ≤ 1000) : Ev g (tCall (spOf g S__law_meet) [] E0 (tCons ta (tCons tb tNil))) ρ (.d (.bool (meetB a b))) := ev_call (ea_cons ha (ea_cons hb ea_nil)) ⟨a, d, b, rfl, hd, hl, rfl⟩
/-! ### _law_led -/
def grow1 (rs : List Road) (l : List Nat) : List Nat := l ++ (rs.filter fun r => decide (0 < r.2.2) && decide (r.1 ∈ l)).map fun r => r.2.1
def growN (rs : List Road) (l : List Nat) : Nat → List Nat
  | 0 => l
  | n + 1 => grow1 rs (growN rs l n)
theorem mem_grow1 {rs : List Road} {l : List Nat} {v : Nat} : v ∈ grow1 rs l ↔ v ∈ l ∨ ∃ u, (u, v) ∈ pos rs ∧ u ∈ l := by
  unfold grow1 pos edg
  rw [List.mem_append]
  refine or_congr Iff.rfl ?_
  constructor
  · intro h
    obtain ⟨r, hr, rfl⟩ := List.mem_map.mp h
    obtain ⟨h1, h2⟩ := List.mem_filter.mp hr
    simp only [Bool.and_eq_true, decide_eq_true_eq] at h2
    exact ⟨r.1, List.mem_map.mpr ⟨r, List.mem_filter.mpr ⟨h1, decide_eq_true h2.1⟩, rfl⟩, h2.2⟩
  · rintro ⟨u, hu, hul⟩
    obtain ⟨r, hr, e⟩ := List.mem_map.mp hu
    cases e
    obtain ⟨h1, h2⟩ := List.mem_filter.mp hr
    exact List.mem_map.mpr ⟨r, List.mem_filter.mpr ⟨h1, by rw [h2, decide_eq_true hul]; rfl⟩, rfl⟩
theorem growN_reach {rs : List Road} {l : List Nat} : ∀ (n : Nat) (v : Nat), v ∈ growN rs l n → Reach (pos rs) l v
  | 0, v, h => .base h
  | n + 1, v, h => by
    rcases mem_grow1.mp h with h | ⟨u, hu, h⟩
    · exact growN_reach n v h
    · exact .step hu (growN_reach n u h)
theorem growN_sub {rs : List Road} {l : List Nat} (n : Nat) {v : Nat} (h : v ∈ growN rs l n) : v ∈ growN rs l (n + 1) := mem_grow1.mpr (.inl h)
/-- how many of 0 .. 5 are there -/
def cnt6 (l : List Nat) : Nat := ((List.range 6).filter fun v => decide (v ∈ l)).length
theorem growN_all {rs : List Road} {l : List Nat} (h6 : ∀ r ∈ rs, r.2.1 < 6) (hl : ∀ v ∈ l, v < 6) : ∀ n, (∀ u v, (u, v) ∈ pos rs → u ∈ growN rs l n → v ∈ growN rs l n) ∨ n ≤ cnt6 (growN rs l n)
  | 0 => .inr (Nat.zero_le _)
  | n + 1 => by
    by_cases hc : ∀ u v, (u, v) ∈ pos rs → u ∈ growN rs l n → v ∈ growN rs l n
    · left
      have same : ∀ v, v ∈ growN rs l (n + 1) → v ∈ growN rs l n := fun v hv => by
        rcases mem_grow1.mp hv with h | ⟨u, hu, h⟩
        · exact h
        · exact hc u v hu h
      exact fun u v huv hu => growN_sub n (hc u v huv (same u hu))
    · right
      have ih := (growN_all h6 hl n).resolve_left hc
      have : ∃ u v, (u, v) ∈ pos rs ∧ u ∈ growN rs l n ∧ v ∉ growN rs l n := by
        apply Classical.byContradiction
        intro h2
        exact hc fun u v huv hu => Classical.byContradiction fun h3 => h2 ⟨u, v, huv, hu, h3⟩
      obtain ⟨u, v, huv, hu, hv⟩ := this
      have hv6 : v < 6 := by
        obtain ⟨r, hr, e⟩ := List.mem_map.mp huv
        cases e
        exact h6 r (List.mem_filter.mp hr).1
      have hv1 : v ∈ growN rs l (n + 1) := mem_grow1.mpr (.inr ⟨u, huv, hu⟩)
      have lt : cnt6 (growN rs l n) < cnt6 (growN rs l (n + 1)) := by
        unfold cnt6
        have key : ∀ (xs : List Nat), v ∈ xs → (xs.filter fun w => decide (w ∈ growN rs l n)).length < (xs.filter fun w => decide (w ∈ growN rs l (n + 1))).length := by
          have le : ∀ (xs : List Nat), (xs.filter fun w => decide (w ∈ growN rs l n)).length ≤ (xs.filter fun w => decide (w ∈ growN rs l (n + 1))).length := fun xs => by
            induction xs with
            | nil => exact Nat.le_refl _
            | cons a xs ih =>
              rw [List.filter_cons, List.filter_cons]
              by_cases ha : a ∈ growN rs l n
              · rw [if_pos (decide_eq_true ha), if_pos (decide_eq_true (growN_sub n ha))]
                exact Nat.succ_le_succ ih
              · rw [if_neg (by simpa using ha)]
                split
                · exact Nat.le_succ_of_le ih
                · exact ih
          intro xs
          induction xs with
          | nil => intro h; cases h
          | cons a xs ih =>
            intro h
            rw [List.filter_cons, List.filter_cons]
            rcases List.mem_cons.mp h with e | e
            · subst e
              rw [if_neg (by simpa using hv), if_pos (decide_eq_true hv1)]
              exact Nat.lt_succ_of_le (le xs)
            · by_cases ha : a ∈ growN rs l n
              · rw [if_pos (decide_eq_true ha), if_pos (decide_eq_true (growN_sub n ha))]
                exact Nat.succ_lt_succ (ih e)
              · rw [if_neg (by simpa using ha)]
                split
                · exact Nat.lt_succ_of_lt (ih e)
                · exact ih e
        exact key _ (List.mem_range.mpr hv6)
      omega
theorem growN_led {rs : List Road} {l : List Nat} (h6 : ∀ r ∈ rs, r.2.1 < 6) (hl : ∀ v ∈ l, v < 6) (v : Nat) : v ∈ growN rs l 6 ↔ v ∈ heardL rs l := by
  have hr6 : ∀ v, Reach (pos rs) l v → v < 6 := fun v r => by
    cases r with
    | base h => exact hl v h
    | step h _ =>
      obtain ⟨r, hr, e⟩ := List.mem_map.mp h
      cases e
      exact h6 r (List.mem_filter.mp hr).1
  unfold heardL
  rw [mem_led]
  constructor
  · intro h
    have := growN_reach 6 v h
    exact ⟨hr6 v this, this⟩
  · rintro ⟨hv, r⟩
    have h0 : ∀ n (w : Nat), w ∈ l → w ∈ growN rs l n := fun n => by
      induction n with
      | zero => exact fun w h => h
      | succ n ih => exact fun w h => growN_sub n (ih w h)
    rcases growN_all h6 hl 6 with hc | hc
    · exact reach_sub (h0 6) hc r
    · unfold cnt6 at hc
      have le := List.length_filter_le (fun w => decide (w ∈ growN rs l 6)) (List.range 6)
      rw [List.length_range] at le
      have e : (List.range 6).filter (fun w => decide (w ∈ growN rs l 6)) = List.range 6 := by
        apply List.filter_eq_self.mpr
        apply List.length_filter_eq_length_iff.mp
        rw [List.length_range]
        omega
      have : v ∈ (List.range 6).filter (fun w => decide (w ∈ growN rs l 6)) := by rw [e]; exact List.mem_range.mpr hv
      exact of_decide_eq_true (List.mem_filter.mp this).2
theorem growN_len {rs : List Road} {l : List Nat} (n : Nat) : (growN rs l n).length ≤ l.length + n * rs.length := by
  induction n with
  | zero => show l.length ≤ _; omega
  | succ n ih =>
    show (grow1 rs (growN rs l n)).length ≤ _
    unfold grow1
    rw [List.length_append, List.length_map]
    have := List.length_filter_le (fun r : Road => decide (0 < r.2.2) && decide (r.1 ∈ growN rs l n)) rs
    rw [Nat.succ_mul]
    omega
theorem growN_lt {rs : List Road} {l : List Nat} (h6 : ∀ r ∈ rs, r.2.1 < 6) (hl : ∀ v ∈ l, v < 6) : ∀ v ∈ growN rs l 6, v < 6 := fun v h => (mem_led.mp ((growN_led h6 hl v).mp h)).1
def S__law_led : SpD := fun xs P => ∃ (rs : List Road) (d : PyData) (l : List Nat), xs = [.d (rdsD rs), .d d] ∧ isS (.d d) = some (natsL l) ∧ (∀ r ∈ rs, r.2.1 < 6) ∧ (∀ v ∈ l, v < 6) ∧ rs.length ≤ 100 ∧ l.length ≤ 100 ∧ P (.d (tupN (heardL rs l)))
abbrev N__law_led : List Str := ["_law_roads", "_law_houses", "_law_found", "_law_turn", "_law_road"]
abbrev ps__law_led : List Str := ["_law_roads", "_law_houses"]
theorem sc__law_led : FnScope N__law_led ps__law_led (defScope s_law_led) := ⟨rfl, rfl, rfl, by decide +kernel, rfl, by decide +kernel, by decide +kernel⟩
theorem nd__law_led : N__law_led.Nodup := sc__law_led.nd
theorem bd__law_led : BindH "_law_led" "_law_led" ps__law_led s_law_led := fun _ _ _ _ _ _ us hl => match us, hl with | [_, _], _ => rfl
theorem ok__law_led {P : Program} {w : World} {mg : Str → Option Value} {base : Heap} {g : Gb} (c : Txt g mg base) : FOk P w g.K mg base 1 "_law_led" ps__law_led (spOf g S__law_led) := by
  have tx := txt_tx c
  refine FOk.mk' (h__law_led c) sc__law_led bd__law_led (by intro xs Q h; unfold S__law_led at h; (repeat' (rcases h with ⟨_, h⟩)); subst_vars; rfl) fun cdv A outer s H E hr => ⟨_, (pss_cons (ps_set (i := 2) nd__law_led rfl (Or.inr rfl) (pe_callTy (cList g.K) (by rfl) tx.list bt_list (pa_cons (pv 1) pa_nil)))
    (pss_cons (ps_for PassesOwn.never rfl (pi_range1 rfl tx.range (pa_cons pe_int pa_nil)) (pg_name (i := 3) nd__law_led rfl (Or.inl rfl)) (pss_one (ps_set (i := 2) nd__law_led rfl (Or.inr rfl) (pe_op op_cat (pv 2) (pe_lc rfl nd__law_led (piL g.K (pv 0)) (blkOk_by (own := [("_law_road", 4)]) (N := N__law_led) (sc := defScope s_law_led) (by decide +kernel)) (fun _ _ _ _ _ => (pg_name (i := 4) nd__law_led rfl (Or.inl rfl))) (fun _ _ _ _ _ => (pts_one (PW.pt (pw_and (pt_cmpR op_gt (pe_ix (ixT g.K) (pv 4) pe_int (fun _ _ => rfl)) pe_int (nomark _)) (pw_and1 (pt_cmpR (opIn g.K) (pe_ix (ixT g.K) (pv 4) pe_int (fun _ _ => rfl)) (pv 2) (by rfl))))))) (fun _ _ _ _ _ => (pe_ix (ixT g.K) (pv 4) pe_int (fun _ _ => rfl))))))))
    (pss_one (ps_ret (pe_callTy (cTup g.K) (by rfl) tx.tuple bt_tuple (pa_cons (pe_sortSetS g.K (by rfl) tx.sorted (by rfl) tx.set (pv 2)) pa_nil)))))), ?_⟩
  rintro xs Q ⟨rs, d, l, rfl, hd, h6, hl6, hrl, hll, hQ⟩
  refine sq_set (x := .d (listN l)) (ev_listS (ev_var rfl) hd) (st_seq (M := fun ρ => ∃ a, ρ = [some (.d (rdsD rs)), some (.d d), some (.d (listN (growN rs l 6))), a, none]) (st_for (it_rangeN (ev_n 6) (by decide)) (fun _ i ρ => i ≤ 6 ∧ ∃ a, ρ = [some (.d (rdsD rs)), some (.d d), some (.d (listN (growN rs l i))), a, none]) ?_ ?_ ?_) ?_)
  · rintro ds rfl
    exact ⟨Nat.zero_le _, none, rfl⟩
  · rintro ds i d' ρ rfl hd' ⟨hi6, a, rfl⟩
    obtain ⟨rfl, hi⟩ := intsTo_get hd'
    have hgl := growN_len (rs := rs) (l := l) i
    have him : i * rs.length ≤ 600 := Nat.le_trans (Nat.mul_le_mul hi6 hrl) (by decide)
    refine ⟨_, _, tg_d, st_set ((ev_cat (ev_var rfl) (ev_lc (l := rs) (enc := rdD) (p := fun r => decide (0 < r.2.2) && decide (r.1 ∈ growN rs l i)) (f := fun r : Road => PyData.int (r.2.1 : Int)) (it_list (ev_var rfl)) (by omega) fun r hr => ⟨_, _, tg_d, by decide,
      eb_and (eb_test (ev_gt (ev_ixTn (ds := [.int (r.1 : Int), .int (r.2.1 : Int), .int r.2.2]) (ev_var rfl) (ev_n 2) rfl) ev_int)) (fun _ => eb_test (ev_inN (ev_ixTn (ds := [.int (r.1 : Int), .int (r.2.1 : Int), .int r.2.2]) (ev_var rfl) (ev_n 0) rfl) (ev_var rfl) rfl)),
      fun _ => ev_ixTn (ds := [.int (r.1 : Int), .int (r.2.1 : Int), .int r.2.2]) (ev_var rfl) (ev_n 1) rfl⟩) rfl rfl ?_).is (y := .d (listN (growN rs l (i + 1)))) ?_) rfl ⟨hi, _, rfl⟩⟩
    · have := List.length_filter_le (fun r : Road => decide (0 < r.2.2) && decide (r.1 ∈ growN rs l i)) rs
      rw [natsL_length, List.length_map]
      omega
    · show Dx.d (.list _) = Dx.d (.list (natsL (grow1 rs (growN rs l i))))
      unfold grow1
      rw [natsL_append]
      congr 2
      congr 1
      unfold natsL
      rw [List.map_map]
      rfl
  · rintro ds ρ rfl ⟨_, a, rfl⟩
    exact ⟨a, rfl⟩
  · rintro ρ ⟨a, rfl⟩
    have lt := growN_lt h6 hl6
    have hgl := growN_len (rs := rs) (l := l) 6
    have e : sset (growN rs l 6) = heardL rs l := lt_sortedN_eq (sset_lt _) (led_lt _ _) fun v => by
      rw [mem_sset fun n hn => by have := lt n hn; omega]
      exact growN_led h6 hl6 v
    refine st_ret (ev_tupL (ev_sortSetN (ns := growN rs l 6) (ev_var rfl) rfl (fun n hn => by have := lt n hn; omega) (by omega)) rfl) ?_
    rw [e]
    exact hQ
theorem lled_call {g : Gb} {ta tb : TE} {ρ : Rho} {rs : List Road} {l : List Nat} {d : PyData} (ha : Ev g ta ρ (.d (rdsD rs))) (hb : Ev g tb ρ (.d d)) (hd : isS (.d d) = some (natsL l)) (h6 : ∀ r ∈ rs, r.2.1 < 6) (hl6 : ∀ v ∈ l, v < 6) (hr : rs.length ≤ 100) (hl : l.length ≤ 100) : Ev g (tCall (spOf g S__law_led) [] E0 (tCons ta (tCons tb tNil))) ρ (.d (tupN (heardL rs l))) := ev_call (ea_cons ha (ea_cons hb ea_nil)) ⟨rs, d, l, rfl, hd, h6, hl6, hr, hl, rfl⟩
end TB
set_option Elab.async false
set_option linter.all false
set_option autoImplicit false
set_option maxRecDepth 100000
set_option maxHeartbeats 4000000
namespace TB
open PySem PySem.Spec PyProof.Rows L2
def entsAt (k : Nat) (rows : List Rwx) : List Ent := rows.map fun r => (k, r.1, r.2)
def entsTo (res : List (List Rwx)) (n : Nat) : List Ent := (List.range n).flatMap fun i => entsAt i (res.getD i [])
def entsAll (res : List (List Rwx)) : List Ent := entsTo res res.length
theorem entsTo_succ (res : List (List Rwx)) (n : Nat) : entsTo res (n + 1) = entsTo res n ++ entsAt n (res.getD n []) := by
  unfold entsTo
  rw [List.range_succ, List.flatMap_append, List.flatMap_singleton]
theorem getD_len {res : List (List Rwx)} (h : ∀ rows ∈ res, rows.length ≤ 1000) (i : Nat) : (res.getD i []).length ≤ 1000 := by
  rw [List.getD_eq_getElem?_getD]
  cases hq : res[i]? with
  | none => exact Nat.zero_le _
  | some r => exact h r (List.mem_of_getElem? hq)
theorem entsTo_len {res : List (List Rwx)} (h : ∀ rows ∈ res, rows.length ≤ 1000) (n : Nat) : (entsTo res n).length ≤ 1000 * n := by
  induction n with
  | zero => exact Nat.zero_le _
  | succ n ih =>
    rw [entsTo_succ, List.length_append]
    have : (entsAt n (res.getD n [])).length = (res.getD n []).length := List.length_map _
    have := getD_len h n
    omega
theorem entsAt_take {k : Nat} {rows : List Rwx} {j : Nat} {f : List Nat} {t : Int} (h : rows[j]? = some (f, t)) : (entsAt k (rows.take j)).map entD ++ [PyData.tuple [.int (k : Int), tupN f, .int t]] = (entsAt k (rows.take (j + 1))).map entD := by
  unfold entsAt
  rw [List.take_add_one, h, Option.toList_some, List.map_append, List.map_append]
  rfl
def S_plan : SpD := fun xs P => ∃ (h : Nat) (rs : List Road) (ms : List Msg), xs = [newsX h rs ms] ∧ NewsOk h rs ms ∧ ∀ _ : Unit,
  ((∃ l L, lacks h rs ms = l :: L ∧ P (.d (.tuple [.str "no", tupN l]))) ∨ (lacks h rs ms = [] ∧ ∃ res, Out h 0 rs (streamsOf rs ms) res ∧ (∀ rows ∈ res, rows.length ≤ 1000) ∧ P (.d (.tuple [.str "yes", entsD (entsAll res)]))))
theorem streamsOf_len (rs : List Road) (ms : List Msg) : (streamsOf rs ms).length = ms.length := by unfold streamsOf; rw [List.length_map, List.length_range]
abbrev N_plan : List Str := ["news", "lot", "found", "number", "rows", "forest", "times"]
abbrev ps_plan : List Str := ["news"]
theorem sc_plan : FnScope N_plan ps_plan (defScope splan) := ⟨rfl, rfl, rfl, by decide +kernel, rfl, by decide +kernel, by decide +kernel⟩
theorem nd_plan : N_plan.Nodup := sc_plan.nd
theorem bd_plan : BindH "plan" "plan" ps_plan splan := fun _ _ _ _ _ _ us hl => match us, hl with | [_], _ => rfl
theorem ok_plan {P : Program} {w : World} {mg : Str → Option Value} {base : Heap} {g : Gb} (c : Txt g mg base) : FOk P w g.K mg base 6 "plan" ps_plan (spOf g S_plan) := by
  have tx := txt_tx c
  refine FOk.mk' (h_plan c) sc_plan bd_plan (by intro xs Q h; unfold S_plan at h; (repeat' (rcases h with ⟨_, h⟩)); subst_vars; rfl) fun cdv A outer s H E hr => ⟨_, (pss_cons (ps_set (i := 1) nd_plan rfl (Or.inl rfl) (peMeth0 g.K (ok_News_lack c) (hr.mono (by decide)) (pv 0)))
    (pss_cons (ps_if (pt_cmpR op_notN1 (pv 1) pe_non (nomark _)) (pss_one (ps_ret (pe_tup (pa_cons pe_str (pa_cons (pv 1) pa_nil))))) pss_nil)
    (pss_cons (ps_set (i := 2) nd_plan rfl (Or.inl rfl) (pe_lst pa_nil))
    (pss_cons (ps_for PassesOwn.never rfl (piEnum g.K tx.enumerate (pa_cons (pe_callF (ok_grow c) (hr.mono (by decide)) (pa_cons (pe_callB (cLenO (ok_Net___len__ c) (hr.mono (by decide)) g.K) (by rfl) tx.len bt_len (pa_cons (peFld g.K (pv 0)) pa_nil)) (pa_cons (peMeth0 g.K (ok_Net_roads c) (hr.mono (by decide)) (peFld g.K (pv 0))) (pa_cons (pe_callF (ok_streams_of c) (hr.mono (by decide)) (pa_cons (pv 0) pa_nil)) pa_nil)))) pa_nil)) (pgT g.K 2 (pgs_cons (pg_name (i := 3) nd_plan rfl (Or.inl rfl)) (pgs_cons (pg_name (i := 4) nd_plan rfl (Or.inl rfl)) pgs_nil))) (pss_one (ps_for PassesOwn.never rfl (piL g.K (pv 4)) (pgT g.K 2 (pgs_cons (pg_name (i := 5) nd_plan rfl (Or.inl rfl)) (pgs_cons (pg_name (i := 6) nd_plan rfl (Or.inl rfl)) pgs_nil))) (pss_one (ps_expr (pe_bm PySem.F.plainAttrs_list PySem.F.slot_list_append PySem.F.type_list_append mt_append (pv 2) (pa_cons (pe_tup (pa_cons (pv 3) (pa_cons (pv 5) (pa_cons (pv 6) pa_nil)))) pa_nil)))))))
    (pss_one (ps_ret (pe_tup (pa_cons pe_str (pa_cons (pv 2) pa_nil))))))))), ?_⟩
  rintro xs Q ⟨h, rs, ms, rfl, ok, hQ⟩
  have hh := ok.net.h6
  have hm := ok.few
  refine sq_set (x := .d (lackD (lacks h rs ms))) (ev_methNews (h := h) (rs := rdsL rs) (ms := ms.map msgD) (hs := (ms.map fun m => heardL rs m.1).map tupN) (ev_var rfl) (by decide) ea_nil ⟨h, rs, ms, rfl, ok, rfl⟩) ?_
  rcases hQ () with ⟨l, L, hl, hQ⟩ | ⟨hl, res, hO, hrows, hQ⟩
  · rw [hl]
    refine sq_ifB (eb_test (ev_notN (ev_var rfl))) (fun _ => sq_ret (st_ret (ev_tup (ds := [.str "no", tupN l]) (ea_cons ev_str (ea_cons (ev_var rfl) ea_nil)) (by simp)) hQ)) fun e => by cases e
  · rw [hl]
    refine sq_no (eb_test (ev_notN (d := .none) (ev_var rfl))) rfl ?_
    refine sq_own ?_
    have hlen : res.length = ms.length := by
      have := hO.len
      rw [streamsOf_len] at this
      omega
    refine st_seq (M := fun ρ => ∃ a b c d, ρ = [some (newsX h rs ms), some (.d .none), some (.own ((entsAll res).map entD)), a, b, c, d]) (st_for (it_enumR (l := res) (enc := rowsD) [] (ev_call (P := fun y => y = .d (.list (res.map rowsD))) (ea_cons (len_net (rs := rdsL rs) (ev_netN c (ms := ms) (ev_var rfl)) hh) (ea_cons (news_net_roads c (rs := rdsL rs) (ev_var rfl)) (ea_cons (ev_call (P := fun y => y = .d (stsD (streamsOf rs ms))) (ea_cons (ev_var rfl) ea_nil) ⟨h, rs, ms, rfl, ok, rfl⟩) ea_nil)))
      ⟨h, rs, streamsOf rs ms, res, rfl, ok.net.h1, hh, ok.net.many, fun r hr => by have := (ok.net.road r hr).2.1; omega, by rw [streamsOf_len]; omega, hO, hrows, rfl⟩))
      (fun _ i ρ => ∃ a b c d, ρ = [some (newsX h rs ms), some (.d .none), some (.own ((entsTo res i).map entD)), a, b, c, d]) ?_ ?_ ?_) ?_
    · rintro ds rfl
      exact ⟨none, none, none, none, rfl⟩
    · rintro ds i d ρ rfl hd ⟨a, b, e, f, rfl⟩
      obtain ⟨hi, rfl⟩ := range_get hd
      refine ⟨_, _, tg_tup (tgs_cons tg_d (tgs_cons tg_d tgs_nil)) rfl, ?_⟩
      refine st_for (it_list (ds := (res.getD i []).map rwD) (ev_var rfl)) (fun _ j ρ => ∃ c d, ρ = [some (newsX h rs ms), some (.d .none), some (.own ((entsTo res i).map entD ++ (entsAt i ((res.getD i []).take j)).map entD)), some (.d (.int (i : Int))), some (.d (rowsD (res.getD i []))), c, d]) ?_ ?_ ?_
      · rintro ds rfl
        refine ⟨e, f, ?_⟩
        rw [List.take_zero]
        show _ = [some (newsX h rs ms), some (.d .none), some (.own ((entsTo res i).map entD ++ [])), _, _, _, _]
        rw [List.append_nil]
        rfl
      · rintro ds j d ρ rfl hd2 ⟨c1, d1, rfl⟩
        rw [List.getElem?_map] at hd2
        cases hs : (res.getD i [])[j]? with
        | none => rw [hs] at hd2; cases hd2
        | some r =>
          rw [hs] at hd2
          obtain ⟨fo, t⟩ := r
          cases hd2
          refine ⟨_, _, tg_tup (tgs_cons tg_d (tgs_cons tg_d tgs_nil)) rfl, ?_⟩
          refine st_app rfl (ev_tup (ds := [.int (i : Int), tupN fo, .int t]) (ea_cons (ev_var rfl) (ea_cons (ev_var rfl) (ea_cons (ev_var rfl) ea_nil))) (by simp)) ?_ ?_
          · have h1 := entsTo_len hrows i
            have h2 := getD_len hrows i
            have h3 : ((entsTo res i).map entD).length = (entsTo res i).length := List.length_map _
            have h4 : ((entsAt i ((res.getD i []).take j)).map entD).length ≤ 1000 := by
              rw [List.length_map]
              unfold entsAt
              rw [List.length_map, List.length_take]
              omega
            rw [List.length_append]
            omega
          · refine ⟨some (.d (tupN fo)), some (.d (.int t)), ?_⟩
            rw [← entsAt_take hs, ← List.append_assoc]
            rfl
      · rintro ds ρ rfl ⟨c1, d1, rfl⟩
        refine ⟨some (.d (.int (i : Int))), some (.d (rowsD (res.getD i []))), c1, d1, ?_⟩
        rw [entsTo_succ, List.length_map, List.take_length, List.map_append]
    · rintro ds ρ rfl ⟨a, b, c, d, rfl⟩
      rw [List.length_map, List.length_range]
      exact ⟨a, b, c, d, rfl⟩
    · rintro ρ ⟨a, b, c, d, rfl⟩
      exact st_freeze (i := 2) (ds := (entsAll res).map entD) rfl (st_ret (ev_tup (ds := [.str "yes", entsD (entsAll res)]) (ea_cons ev_str (ea_cons (ev_var rfl) ea_nil)) (by simp)) hQ)
/-- a finish's parts, tagged, by the turn -/
theorem tagged_nil (B : List Ent) : tagged B [] = [] := by unfold tagged; rw [List.zipWith_nil_right]; rfl
def taggedTo (B : List Ent) (parts : List (List Rwx)) (n : Nat) : List Ent := ((List.zip B parts).take n).flatMap fun p => p.2.map fun r => (p.1.1, r.1, r.2)
theorem taggedTo_all (B : List Ent) (parts : List (List Rwx)) : taggedTo B parts (List.zip B parts).length = tagged B parts := by
  unfold taggedTo tagged
  rw [List.take_length, List.flatMap, List.zip, List.map_zipWith]
theorem taggedTo_succ {B : List Ent} {parts : List (List Rwx)} {n : Nat} {e : Ent} {rows : List Rwx} (h : (List.zip B parts)[n]? = some (e, rows)) : taggedTo B parts (n + 1) = taggedTo B parts n ++ rows.map fun r => (e.1, r.1, r.2) := by
  unfold taggedTo
  rw [List.take_add_one, h, Option.toList_some, List.flatMap_append, List.flatMap_singleton]
def S_is_finish : SpD := fun xs P => ∃ (h : Nat) (rs : List Road) (ms : List Msg) (B : List Ent) (parts : List (List Rwx)) (new : List Ent), xs = [newsX h rs ms, .d (entsD B), .d (.tuple [.list (parts.map rowsD), entsD new])] ∧ NewsOk h rs ms ∧ BegOk rs ms B ∧ FinOk rs ms B parts new ∧ new.length ≤ 1000 ∧ (∀ rows ∈ parts, rows.length ≤ 1000) ∧ P (.d (.bool true))
theorem taggedTo_len {B : List Ent} {parts : List (List Rwx)} (h : ∀ rows ∈ parts, rows.length ≤ 1000) (n : Nat) : (taggedTo B parts n).length ≤ 1000 * n := by
  induction n with
  | zero => exact Nat.zero_le _
  | succ n ih =>
    cases hq : (List.zip B parts)[n]? with
    | none =>
      have : (List.zip B parts).take (n + 1) = (List.zip B parts).take n := by rw [List.take_add_one, hq]; simp
      have e : taggedTo B parts (n + 1) = taggedTo B parts n := by unfold taggedTo; rw [this]
      rw [e]
      omega
    | some p =>
      obtain ⟨e, rows⟩ := p
      rw [taggedTo_succ hq, List.length_append, List.length_map]
      have := h rows ((List.of_mem_zip (List.mem_of_getElem? hq)).2)
      omega
theorem tagged_mem {B : List Ent} {parts : List (List Rwx)} {i : Nat} {e : Ent} {rows : List Rwx} {r : Rwx} (h1 : B[i]? = some e) (h2 : parts[i]? = some rows) (hr : r ∈ rows) : (e.1, r.1, r.2) ∈ tagged B parts := by
  rw [← taggedTo_all]
  unfold taggedTo
  rw [List.take_length, List.mem_flatMap]
  refine ⟨(e, rows), ?_, List.mem_map.mpr ⟨r, hr, rfl⟩⟩
  exact List.mem_of_getElem? (List.getElem?_zip_eq_some.mpr ⟨h1, h2⟩ : (List.zip B parts)[i]? = _)
abbrev N_is_finish : List Str := ["news", "begun", "value", "parts", "rest", "entry", "rows", "found", "number", "some", "times", "forest", "many"]
abbrev ps_is_finish : List Str := ["news", "begun", "value"]
theorem sc_is_finish : FnScope N_is_finish ps_is_finish (defScope sis_finish) := ⟨rfl, rfl, rfl, by decide +kernel, rfl, by decide +kernel, by decide +kernel⟩
theorem nd_is_finish : N_is_finish.Nodup := sc_is_finish.nd
theorem bd_is_finish : BindH "is_finish" "is_finish" ps_is_finish sis_finish := fun _ _ _ _ _ _ us hl => match us, hl with | [_, _, _], _ => rfl
theorem ok_is_finish {P : Program} {w : World} {mg : Str → Option Value} {base : Heap} {g : Gb} (c : Txt g mg base) : FOk P w g.K mg base 7 "is_finish" ps_is_finish (spOf g S_is_finish) := by
  have tx := txt_tx c
  refine FOk.mk' (h_is_finish c) sc_is_finish bd_is_finish (by intro xs Q h; unfold S_is_finish at h; (repeat' (rcases h with ⟨_, h⟩)); subst_vars; rfl) fun cdv A outer s H E hr => ⟨_, (pss_cons (ps_if (PW.pt (pw_or (pt_not (pt_val (pe_callB (cIsi g.K) (by rfl) tx.isinstance bt_isinstance (pa_cons (pv 2) (pa_cons (pe_bltn (v := .ty "tuple") (by rfl) tx.tuple bt_tuple rfl) pa_nil))))) (pw_or (pt_cmpR op_ne (pe_callB (cLen g.K) (by rfl) tx.len bt_len (pa_cons (pv 2) pa_nil)) pe_int (nomark _)) (pw_or1 (pt_not (pt_val (pe_callB (cIsi g.K) (by rfl) tx.isinstance bt_isinstance (pa_cons (pe_ix (ixT g.K) (pv 2) pe_int (fun _ _ => rfl)) (pa_cons (pe_bltn (v := .ty "list") (by rfl) tx.list bt_list rfl) pa_nil))))))))) (pss_one (ps_ret pe_bl)) pss_nil)
    (pss_cons (ps_asg (pv 2) (pgT g.K 2 (pgs_cons (pg_name (i := 3) nd_is_finish rfl (Or.inl rfl)) (pgs_cons (pg_name (i := 4) nd_is_finish rfl (Or.inl rfl)) pgs_nil))))
    (pss_cons (ps_if (PW.pt (pw_or (pt_not (pt_val (pe_callB (cIsi g.K) (by rfl) tx.isinstance bt_isinstance (pa_cons (pv 4) (pa_cons (pe_bltn (v := .ty "list") (by rfl) tx.list bt_list rfl) pa_nil))))) (pw_or1 (pt_cmpR op_ne (pe_callB (cLen g.K) (by rfl) tx.len bt_len (pa_cons (pv 3) pa_nil)) (pe_callB (cLen g.K) (by rfl) tx.len bt_len (pa_cons (pv 1) pa_nil)) (nomark _))))) (pss_one (ps_ret pe_bl)) pss_nil)
    (pss_cons (ps_if (pt_not (pt_val (pe_callB (cAll g.K rfl) (by rfl) tx.all bt_all (pa_cons (pe_lc rfl nd_is_finish (piZip g.K tx.zip (pa_cons (pv 1) (pa_cons (pv 3) pa_nil))) (blkOk_by (own := [("entry", 5), ("rows", 6)]) (N := N_is_finish) (sc := defScope sis_finish) (by decide +kernel)) (fun _ _ _ _ _ => (pgT g.K 2 (pgs_cons (pg_name (i := 5) nd_is_finish rfl (Or.inl rfl)) (pgs_cons (pg_name (i := 6) nd_is_finish rfl (Or.inl rfl)) pgs_nil)))) (fun _ _ _ _ _ => pts_nil) (fun _ _ _ _ _ => (pe_callF (ok_is_part_finished c) (hr.mono (by decide)) (pa_cons (pv 0) (pa_cons (pv 5) (pa_cons (pv 6) pa_nil)))))) pa_nil)))) (pss_one (ps_ret pe_bl)) pss_nil)
    (pss_cons (ps_set (i := 7) nd_is_finish rfl (Or.inl rfl) (pe_callTy (cList g.K) (by rfl) tx.list bt_list (pa_cons (pv 4) pa_nil)))
    (pss_cons (ps_for PassesOwn.never rfl (piZip g.K tx.zip (pa_cons (pv 1) (pa_cons (pv 3) pa_nil))) (pgT g.K 2 (pgs_cons (pgT g.K 3 (pgs_cons (pg_name (i := 8) nd_is_finish rfl (Or.inr rfl)) (pgs_cons (pg_name (i := 9) nd_is_finish rfl (Or.inl rfl)) (pgs_cons (pg_name (i := 10) nd_is_finish rfl (Or.inl rfl)) pgs_nil)))) (pgs_cons (pg_name (i := 6) nd_is_finish rfl (Or.inl rfl)) pgs_nil))) (pss_one (ps_set (i := 7) nd_is_finish rfl (Or.inl rfl) (pe_op op_cat (pv 7) (pe_lc rfl nd_is_finish (piL g.K (pv 6)) (blkOk_by (own := [("forest", 11), ("many", 12)]) (N := N_is_finish) (sc := defScope sis_finish) (by decide +kernel)) (fun _ _ _ _ _ => (pgT g.K 2 (pgs_cons (pg_name (i := 11) nd_is_finish rfl (Or.inl rfl)) (pgs_cons (pg_name (i := 12) nd_is_finish rfl (Or.inl rfl)) pgs_nil)))) (fun _ _ _ _ _ => pts_nil) (fun _ _ _ _ _ => (pe_tup (pa_cons (pv 8) (pa_cons (pv 11) (pa_cons (pv 12) pa_nil))))))))))
    (pss_one (ps_ret (pe_callF (ok_is_plan c) (hr.mono (by decide)) (pa_cons (pv 0) (pa_cons (pv 7) pa_nil))))))))))), ?_⟩
  rintro xs Q ⟨h, rs, ms, B, parts, new, rfl, ok, bo, fo, hn, hp, hQ⟩
  have hb := bo.few
  have hpl := fo.len
  have in2 : Ev g (tVar 2) (startR N_is_finish [newsX h rs ms, .d (entsD B), .d (.tuple [.list (parts.map rowsD), entsD new])]) (.d (.tuple [.list (parts.map rowsD), entsD new])) := ev_var rfl
  refine sq_no (eb_or (eb_not (eb_test (ev_isi in2 rfl rfl))) fun _ => eb_or (eb_test (ev_neN (ev_len in2 rfl) (ev_n 2))) fun _ => eb_not (eb_test (ev_isi (ev_ixTn in2 (ev_n 0) rfl) rfl rfl))) rfl ?_
  refine sq_asg (P := fun y => y = .d (.tuple [.list (parts.map rowsD), entsD new])) (ev_var rfl) ?_
  rintro y rfl
  refine ⟨_, _, tg_tup (tgs_cons tg_d (tgs_cons tg_d tgs_nil)) rfl, ?_⟩
  refine sq_no (eb_or (eb_not (eb_test (ev_isi (ev_var rfl) rfl rfl))) fun _ => eb_test (ev_neN (ev_len (ev_var rfl) rfl) (ev_len (ev_var rfl) rfl))) (by simp [hpl]) ?_
  have zl : (List.zip B parts).length ≤ 6 := by rw [List.length_zip]; omega
  refine sq_no (eb_not (eb_test (ev_allT (l := List.zip B parts) (enc := fun p : Ent × List Rwx => PyData.tuple [entD p.1, rowsD p.2]) (it_zipM (f := entD) (k := rowsD) (ev_var rfl) (ev_var rfl)) (by omega) fun p hpz => ⟨_, _, tg_tup (tgs_cons tg_d (tgs_cons tg_d tgs_nil)) rfl, by decide, ?_⟩))) rfl ?_
  · obtain ⟨i, hi⟩ := List.mem_iff_getElem?.mp hpz
    rw [List.getElem?_zip_eq_some] at hi
    obtain ⟨h1, h2⟩ := hi
    obtain ⟨q1, q2⟩ := fo.part i p.1 p.2 h1 h2
    obtain ⟨⟨b1, b2⟩, b3, b4⟩ := bo.ent p.1 (List.mem_of_getElem? h1)
    refine ev_call (ea_cons (ev_var rfl) (ea_cons (ev_var rfl) (ea_cons (ev_var rfl) ea_nil))) ⟨h, rs, ms, p.1, p.2, rfl, ok, b1, fun r hr => ⟨(q1 r hr).1, ?_, (q1 r hr).2⟩, ?_, ?_, q2, rfl⟩
    · exact ((fo.plan.ent (p.1.1, r.1, r.2) (List.mem_append_right _ (tagged_mem h1 h2 hr))).2)
    · have := b3.len
      have := ok.net.many
      omega
    · have := hp p.2 (List.mem_of_getElem? h2)
      omega
  refine sq_set (x := .d (entsD new)) (ev_listS (ds := new.map entD) (ev_var rfl) rfl) ?_
  refine st_seq (M := fun ρ => ∃ a b c d e f, ρ = [some (newsX h rs ms), some (.d (entsD B)), some (.d (.tuple [.list (parts.map rowsD), entsD new])), some (.d (.list (parts.map rowsD))), some (.d (entsD new)), none, a, some (.d (entsD (new ++ tagged B parts))), b, c, d, e, f]) (st_for (it_zipM (a := B) (b := parts) (f := entD) (k := rowsD) (ev_var rfl) (ev_var rfl))
    (fun _ i ρ => ∃ a b c d e f, ρ = [some (newsX h rs ms), some (.d (entsD B)), some (.d (.tuple [.list (parts.map rowsD), entsD new])), some (.d (.list (parts.map rowsD))), some (.d (entsD new)), none, a, some (.d (entsD (new ++ taggedTo B parts i))), b, c, d, e, f]) ?_ ?_ ?_) ?_
  · rintro ds rfl
    refine ⟨none, none, none, none, none, none, ?_⟩
    have : taggedTo B parts 0 = [] := rfl
    rw [this, List.append_nil]
    rfl
  · rintro ds i d ρ rfl hd ⟨a1, a2, a3, a4, a5, a6, rfl⟩
    rw [List.getElem?_map] at hd
    cases hz : (List.zip B parts)[i]? with
    | none => rw [hz] at hd; cases hd
    | some p =>
      rw [hz] at hd
      obtain ⟨⟨n, row, t⟩, rows⟩ := p
      cases hd
      have hrl := hp rows ((List.of_mem_zip (List.mem_of_getElem? hz)).2)
      have htl := taggedTo_len (B := B) hp i
      have hi6 : i < 6 := by
        have := (List.getElem?_eq_some_iff.mp hz).1
        omega
      refine ⟨_, _, tg_tup (tgs_cons (tg_tup (tgs_cons tg_d (tgs_cons tg_d (tgs_cons tg_d tgs_nil))) rfl) (tgs_cons tg_d tgs_nil)) rfl, ?_⟩
      refine st_set (x := .d (entsD (new ++ taggedTo B parts i ++ rows.map fun r : Rwx => (n, r.1, r.2)))) ((ev_cat (ds := (new ++ taggedTo B parts i).map entD) (es := rows.map fun r : Rwx => entD (n, r.1, r.2)) (ev_var rfl) (ev_lcA (l := rows) (enc := rwD) (f := fun r : Rwx => entD (n, r.1, r.2)) (it_list (ev_var rfl)) (by omega) fun r hr => ⟨_, _, tg_tup (tgs_cons tg_d (tgs_cons tg_d tgs_nil)) rfl, by decide, ev_tup (ds := [.int (n : Int), tupN r.1, .int r.2]) (ea_cons (ev_var rfl) (ea_cons (ev_var rfl) (ea_cons (ev_var rfl) ea_nil))) (by simp)⟩) rfl rfl ?_).is ?_) rfl ⟨some (.d (rowsD rows)), some (.d (.int (n : Int))), some (.d (tupN row)), some (.d (.int t)), a5, a6, ?_⟩
      · rw [List.length_map, List.length_map, List.length_append]
        omega
      · unfold entsD
        rw [List.map_append (l₁ := new ++ taggedTo B parts i), List.map_map]
        rfl
      · rw [taggedTo_succ hz, ← List.append_assoc]
        rfl
  · rintro ds ρ rfl ⟨a1, a2, a3, a4, a5, a6, rfl⟩
    rw [List.length_map, taggedTo_all]
    exact ⟨_, _, _, _, _, _, rfl⟩
  · rintro ρ ⟨a1, a2, a3, a4, a5, a6, rfl⟩
    refine st_ret (ev_call (ea_cons (ev_var rfl) (ea_cons (ev_var rfl) ea_nil)) ⟨h, rs, ms, new ++ tagged B parts, rfl, ok, fo.plan, ?_, rfl⟩) hQ
    rw [List.length_append, ← taggedTo_all]
    have := taggedTo_len (B := B) hp (List.zip B parts).length
    omega
end TB
set_option Elab.async false
set_option linter.all false
set_option autoImplicit false
set_option maxRecDepth 100000
set_option maxHeartbeats 4000000
namespace TB
open PySem PySem.Spec PyProof.Rows L2
section
variable {g : Gb} {e : En} {σ : St} {F H : Hp} {ρ : Rho} {D : Ends} {te : TE} {tg : TG} {wi : TI} {ts tu : TS}
/-- a comprehension's list as a new one -/
theorem ew_lcA {α : Type} {vs : List Nat} {l : List α} {enc f : α → PyData} (hw : ItP g wi ρ (fun y => y = l.map enc)) (hlen : l.length ≤ 1000000)
    (hs : ∀ a ∈ l, ∃ js ρ1, TgP g tg (wipeR ρ vs) (.d (enc a)) js ρ1 ∧ (∀ j ∈ js, j ∈ vs) ∧ Ev g te ρ1 (.d (f a))) : EvW g (tLc wi tg tYes te vs) ρ (l.map f) := fun e σ F H E Q q => hw e σ F H E _ fun J F1 H1 ds r1 pd wd => by
  subst pd
  intro D hD
  obtain ⟨G, Y, W, hG, hY⟩ := wd
  have E1 := E.grow r1
  have r2 : Gr g e.lf F1 H1 F1 (upd H1 D (.lst [])) := Gr.newH E1.wl hD
  have F1D : F1 D = none := E1.wl.F_none hD
  have Dne : D ≠ g.T := E1.wl.T_ne hD
  have Dlf : e.lf ≠ some D := E1.wl.lf_ne hD
  refine lc_it W (fun i H' => ∃ F' accV, Gr g e.lf F1 H1 F' H' ∧ F' D = none ∧ H' D = some (.lst accV) ∧ DqAll F' accV ((l.take i).map f)) ⟨F1, [], r2, F1D, upd_same, .nil⟩ (fun i H' hi p => ?_) (fun i x H' H3 hi p y => ?_) fun H' p => ?_
  · obtain ⟨F', accV, r, f, hh, a⟩ := p
    exact hG F' H' r.ff r.wl.same
  · obtain ⟨F', accV, r, fD, hh, a⟩ := p
    have hil : i < l.length := by rw [List.length_map] at hi; exact hi
    have hli : l[i]? = some l[i] := List.getElem?_eq_getElem hil
    obtain ⟨F3, r3, dx⟩ := hY i F' H' x H3 (enc l[i]) r.wl r.ff (by rw [List.getElem?_map, hli]; rfl) y
    obtain ⟨js, ρ1, htg, hjs, hy⟩ := hs l[i] (List.getElem_mem hil)
    have rA : Gr g e.lf F1 H1 F3 H3 := r.trans E1.wl r3
    have EA : Ew g e (wipe σ vs) F3 H3 (wipeR ρ vs) := (E1.grow rA).wipe vs
    refine htg e (wipe σ vs) F3 H3 x EA dx _ fun σ2 E2 l2 k2 => ⟨wipe_eq (l2.trans (wipe_length σ vs)) fun i hi => (k2 i fun z => hi (hjs i z)).trans (wipe_out hi), ?_⟩
    have hD3 : H3 D = some (.lst accV) := r3.hh D _ Dne Dlf hh
    have fD3 : F3 D = none := r3.nw D _ fD hh
    have a3 := a.mono r3.ff
    simp only [tYes, if_true]
    refine hy e σ2 F3 H3 E2 _ fun w F5 H5 x5 r5 rx5 p5 => ?_
    subst p5
    have hD5 : H5 D = some (.lst accV) := r5.hh D _ Dne Dlf hD3
    have fD5 : F5 D = none := r5.nw D _ fD3 hD3
    have tl : ((l.take i).map f).length ≤ 1000000 := by rw [List.length_map, List.length_take]; omega
    refine ⟨accV, hD5, ?_, F5, accV ++ [w], ?_, fD5, upd_same, ?_⟩
    · rw [a.length]
      exact Nat.lt_of_lt_of_le (show _ < 1000001 by omega) (by decide)
    · have r15 : Gr g e.lf F1 H1 F5 H5 := rA.trans E1.wl r5
      refine ⟨r15.ff, fun c o h1 h2 h3 => ?_, r15.wl.write hD5 fD5 Dlf, r15.nw⟩
      rw [upd_ne (ne_of_none h3 hD)]
      exact r15.hh c o h1 h2 h3
    · rw [List.take_add_one, hli, Option.toList_some, List.map_append]
      exact (a3.mono r5.ff).snoc rx5
  · obtain ⟨F', accV, r, fD, hh, a⟩ := p
    rw [List.length_map, List.take_length] at a
    have h0 : H D = none := by
      cases q : H D with
      | none => rfl
      | some o =>
        have := r1.hh D o Dne Dlf q
        rw [hD] at this
        cases this
    exact q D accV F' H' (r1.step E r) ⟨fD, E.h0 h0, Dne, Dlf, hh⟩ h0 a
/-- x.append(a new list): where the lists stand -/
theorem raw_appW {K : PySem.W.Frag} {i : Nat} {ds es : List PyData} (E : Ew g e σ F H ρ) (hi : ρ[i]? = some (some (.own ds))) (h : EvW g te ρ es) (hz : ds.length < 1000000)
    (k : ∀ l vs q F1 H1, σ[i]? = some (some (.ref l)) → H l = some (.lst vs) → H q = none → Same F F1 → H1 l = some (.lst (vs ++ [.ref q])) → (∀ a, H a ≠ none → H1 a ≠ none) → H1 q ≠ none → Ew g e σ F1 H1 (ρ.set i (some (.own (ds ++ [.list es])))) → D.nx σ H1) : tDrop (tBM K "list" rAppend (tVar i) (tCons te tNil)) D σ H := by
  obtain ⟨v, hv, l, vs, e1, o, a⟩ := E.bd i _ hi
  subst e1
  refine ⟨.ref l, hv, .inl ⟨rfl, _, SqL.of o.h⟩, h e σ F H E _ fun q us F1 H1 r1 oq hq aq => ?_⟩
  have o1 := o.mono r1
  have r2 : Gr g e.lf F H (upd F1 q (.lst us)) H1 := r1.frz hq oq.h oq.f oq.T oq.lf
  have o2 := o.mono r2
  have sm : Same F1 (upd F1 q (.lst us)) := same_upd' oq.f
  have lq : q ≠ l := fun z => by
    have := o.h
    rw [← z, hq] at this
    cases this
  refine ⟨l, vs, .ref q, rfl, rfl, o1.h, ?_, k l vs q _ _ hv o.h hq r2.ff upd_same (fun b hb => ?_) ?_ ((E.grow r2).write hi hv o2.h ((a.mono r2.ff).snoc (Dq.lst upd_same (aq.mono sm))))⟩
  · rw [a.length]
    exact Nat.lt_of_lt_of_le hz (by decide)
  · by_cases hbl : b = l
    · rw [hbl, upd_same]
      exact fun z => nomatch z
    · rw [upd_ne hbl]
      obtain ⟨ob, hob⟩ := Option.ne_none_iff_exists'.mp hb
      by_cases hT : b = g.T
      · obtain ⟨ps, hps⟩ := r1.wl.tbl
        rw [hT, hps]
        exact fun z => nomatch z
      · by_cases hl : e.lf = some b
        · obtain ⟨_, x, y, hxy, _⟩ := r1.wl.feed b hl
          rw [hxy]
          exact fun z => nomatch z
        · rw [r1.hh b ob hT hl hob]
          exact fun z => nomatch z
  · rw [upd_ne lq, oq.h]
    exact fun z => nomatch z
theorem raw_app2 {K : PySem.W.Frag} {i : Nat} {ds : List PyData} {d : PyData} (E : Ew g e σ F H ρ) (hi : ρ[i]? = some (some (.own ds))) (h : Ev g te ρ (.d d)) (hz : ds.length < 1000000)
    (k : ∀ F1 H1, Same F F1 → Ew g e σ F1 H1 (ρ.set i (some (.own (ds ++ [d])))) → D.nx σ H1) : tDrop (tBM K "list" rAppend (tVar i) (tCons te tNil)) D σ H := by
  obtain ⟨v, hv, l, vs, e1, o, a⟩ := E.bd i _ hi
  subst e1
  refine ⟨.ref l, hv, .inl ⟨rfl, _, SqL.of o.h⟩, h e σ F H E _ fun u F1 H1 x r1 rx p => ?_⟩
  subst p
  have o1 := o.mono r1
  refine ⟨l, vs, u, rfl, rfl, o1.h, ?_, k F1 _ r1.ff ((E.grow r1).write hi hv o1.h ((a.mono r1.ff).snoc rx))⟩
  rw [a.length]
  exact Nat.lt_of_lt_of_le hz (by decide)
/-- a statement, then the rest of a body by hand -/
theorem rq_st {M : Rho → Prop} (E : Ew g e σ F H ρ) (h1 : StP g ts ρ ⟨M, fun _ => False, fun _ => False, fun _ => False⟩) (k : ∀ σ' F' H' ρ', Same F F' → Ew g e σ' F' H' ρ' → M ρ' → tu D σ' H') : tSeq ts tu D σ H :=
  h1 e σ F H { D with nx := tu D } E ⟨fun σ' F' H' ρ' s E' m => k σ' F' H' ρ' s E' m, fun _ _ _ _ _ _ z => z.elim, fun _ _ _ _ _ _ z => z.elim, fun _ _ _ _ _ _ z => z.elim⟩
theorem rq_par3L {i j l : Nat} {ta : TA} {a b c : Dx} (E : Ew g e σ F H ρ) (h : EvL g ta ρ [a, b, c]) (k : ∀ σ' F' H', Same F F' → Ew g e σ' F' H' (((ρ.set i (some a)).set j (some b)).set l (some c)) → tu D σ' H') : tSeq (tPar3 i j l ta) tu D σ H :=
  h e σ F H E _ fun vs F1 H1 r rx h1 h2 => by
    obtain ⟨u, v, w', rfl⟩ := rx.three
    exact ⟨u, v, w', rfl, k _ F1 H1 r.ff (three_set E r rx h1 h2)⟩
/-- a loop, with what else holds of the slots and the heap -/
theorem raw_for {ds : List PyData} (E : Ew g e σ F H ρ) (hw : ItP g wi ρ (fun y => y = ds)) (I : Nat → Rho → St → Hp → Hp → Prop)
    (h0 : ∀ F1 H1, Gr g e.lf F H F1 H1 → Ew g e σ F1 H1 ρ → I 0 ρ σ F1 H1)
    (hs : ∀ (i : Nat) d ρ1 σ1 F1 H1, ds[i]? = some d → Same F F1 → Ew g e σ1 F1 H1 ρ1 → I i ρ1 σ1 F1 H1 → ∃ js ρ2, TgP g tg ρ1 (.d d) js ρ2 ∧ ∀ σ2 F2 H2 D', D'.rt = D.rt → Gr g e.lf F1 H1 F2 H2 → Ew g e σ2 F2 H2 ρ2 → (∀ i, i ∉ js → σ2[i]? = σ1[i]?) →
      (∀ σ4 F4 H4 ρ4, Same F2 F4 → Ew g e σ4 F4 H4 ρ4 → I (i + 1) ρ4 σ4 F4 H4 → D'.nx σ4 H4) → ts D' σ2 H2)
    (hd : ∀ ρ1 σ1 F1 H1, Same F F1 → Ew g e σ1 F1 H1 ρ1 → I ds.length ρ1 σ1 F1 H1 → D.nx σ1 H1) : tFor wi tg ts D σ H := hw e σ F H E _ fun J F1 H1 ds' r1 pd wd => by
  subst pd
  obtain ⟨G, Y, W, hG, hY⟩ := wd
  refine for_it W (fun i σ' H' => ∃ F' ρ1, Same F1 F' ∧ Ew g e σ' F' H' ρ1 ∧ I i ρ1 σ' F' H') ⟨F1, ρ, Same.refl F1, E.grow r1, h0 F1 H1 r1 (E.grow r1)⟩ (fun i σ' H' hi p => ?_) (fun i x σ' H' H3 hi p y => ?_) fun σ' H' p => ?_
  · obtain ⟨F', ρ1, s, E', ii⟩ := p
    exact hG F' H' s E'.wl.same
  · obtain ⟨F', ρ1, s, E', ii⟩ := p
    have hdi : ds'[i]? = some ds'[i] := List.getElem?_eq_getElem hi
    obtain ⟨F3, r3, dx⟩ := hY i F' H' x H3 ds'[i] E'.wl s hdi y
    obtain ⟨js, ρ2, ht, hb⟩ := hs i ds'[i] ρ1 σ' F' H' hdi (r1.ff.trans s) E' ii
    refine ht e σ' F3 H3 x (E'.grow r3) dx _ fun σ2 E2 _ h2 => hb σ2 F3 H3 _ rfl r3 E2 h2 fun σ4 F4 H4 ρ4 s4 E4 p4 => ?_
    exact ⟨F4, ρ4, (s.trans r3.ff).trans s4, E4, p4⟩
  · obtain ⟨F', ρ1, s, E', ii⟩ := p
    exact hd ρ1 σ' F' H' (r1.ff.trans s) E' ii
theorem rq_for2 {ds : List PyData} (E : Ew g e σ F H ρ) (hw : ItP g wi ρ (fun y => y = ds)) (I : Nat → Rho → St → Hp → Hp → Prop)
    (h0 : ∀ F1 H1, Gr g e.lf F H F1 H1 → Ew g e σ F1 H1 ρ → I 0 ρ σ F1 H1)
    (hs : ∀ (i : Nat) d ρ1 σ1 F1 H1, ds[i]? = some d → Same F F1 → Ew g e σ1 F1 H1 ρ1 → I i ρ1 σ1 F1 H1 → ∃ js ρ2, TgP g tg ρ1 (.d d) js ρ2 ∧ ∀ σ2 F2 H2 D', D'.rt = D.rt → Gr g e.lf F1 H1 F2 H2 → Ew g e σ2 F2 H2 ρ2 → (∀ i, i ∉ js → σ2[i]? = σ1[i]?) →
      (∀ σ4 F4 H4 ρ4, Same F2 F4 → Ew g e σ4 F4 H4 ρ4 → I (i + 1) ρ4 σ4 F4 H4 → D'.nx σ4 H4) → ts D' σ2 H2)
    (hd : ∀ ρ1 σ1 F1 H1, Same F F1 → Ew g e σ1 F1 H1 ρ1 → I ds.length ρ1 σ1 F1 H1 → tu D σ1 H1) : tSeq (tFor wi tg ts) tu D σ H := raw_for (D := { D with nx := tu D }) E hw I h0 hs hd
end
/-! ### finish -/
def restB (rs : List Road) (B : List Ent) : List Road := B.foldl (fun r e => narrow r e.2.1 e.2.2) rs
noncomputable def lackM (h : Nat) (rs : List Road) (ms : List Msg) (B : List Ent) : List (List Nat) := (lotsL h).filter fun l => decide ((sparesM h (restB rs B) (streamsLeft rs ms B)).getD (maskOf l) 0 < 0)
def partsOf (B : List Ent) (res : List (List Rwx)) : List (List Rwx) := (List.zip B res).map fun p => p.2.map fun r => (srtN (p.1.2.1 ++ r.1), r.2)
/-- a finish as it stands: its lists are new and different -/
def FinAt (F H0 : Hp) (v : V) (parts : List (List Rwx)) (new : List Ent) : Prop := ∃ t u p nw ls, v = .ref t ∧ F t = some (.tup [.str "yes", .ref u]) ∧ F u = some (.tup [.ref p, .ref nw]) ∧ F p = some (.lst (ls.map V.ref)) ∧ DqAll F (ls.map V.ref) (parts.map rowsD) ∧ Dq F (.ref nw) (entsD new) ∧ (p :: nw :: ls).Nodup ∧ ∀ a ∈ p :: nw :: ls, H0 a = none
def spFin (g : Gb) : Sp := fun vs H Q _ => ∃ lf F h rs ms B, Wl g lf F H ∧ ArgAll g lf F vs [newsX h rs ms, .d (entsD B)] ∧ NewsOk h rs ms ∧ BegOk rs ms B ∧
  ((∃ l L, lackM h rs ms B = l :: L ∧ ∀ v F' H', Gr g lf F H F' H' → Dq F' v (.tuple [.str "no", tupN l]) → Q v H') ∨
   (lackM h rs ms B = [] ∧ ∃ res, Out h 0 (restB rs B) (streamsLeft rs ms B) res ∧ (∀ rows ∈ res, rows.length ≤ 1000) ∧ (∀ rows ∈ res, ∀ r ∈ rows, r.1.length ≤ 1000) ∧ ∀ v F' H', Gr g lf F H F' H' → FinAt F' H v (partsOf B res) (entsAll (res.drop B.length)) → Q v H'))
theorem restB_len (rs : List Road) (B : List Ent) : (restB rs B).length = rs.length := by
  unfold restB
  induction B generalizing rs with
  | nil => rfl
  | cons e B ih => rw [List.foldl_cons, ih, narrow_len]
theorem restB_ends {rs : List Road} (B : List Ent) (h : ∀ r ∈ rs, r.2.1 < 6) : ∀ r ∈ restB rs B, r.2.1 < 6 := by
  unfold restB
  induction B generalizing rs with
  | nil => exact h
  | cons e B ih => rw [List.foldl_cons]; exact ih (narrow_ends h)
theorem restB_take {rs : List Road} {B : List Ent} {i : Nat} {e : Ent} (h : B[i]? = some e) : restB rs (B.take (i + 1)) = narrow (restB rs (B.take i)) e.2.1 e.2.2 := by
  unfold restB
  rw [List.take_add_one, h, Option.toList_some, List.foldl_append]
  rfl
def partsTo (B : List Ent) (res : List (List Rwx)) (i : Nat) : List (List Rwx) := ((List.zip B res).take i).map fun p => p.2.map fun r => (srtN (p.1.2.1 ++ r.1), r.2)
theorem partsTo_succ {B : List Ent} {res : List (List Rwx)} {i : Nat} {e : Ent} {rows : List Rwx} (h : (List.zip B res)[i]? = some (e, rows)) : partsTo B res (i + 1) = partsTo B res i ++ [rows.map fun r => (srtN (e.2.1 ++ r.1), r.2)] := by
  unfold partsTo
  rw [List.take_add_one, h, Option.toList_some, List.map_append]
  rfl
theorem partsTo_all (B : List Ent) (res : List (List Rwx)) : partsTo B res (List.zip B res).length = partsOf B res := by
  unfold partsTo partsOf
  rw [List.take_length]
theorem cut_drop (ds : List PyData) (n : Nat) : cutD ds (some (n : Int)) none = ds.drop n := by
  unfold cutD
  have e2 : HT.sIx ds.length ds.length none = ds.length := rfl
  rw [e2]
  have e1 : ds.drop (HT.sIx ds.length 0 (some (n : Int))) = ds.drop n := by
    rw [HT.sIx_nat]
    by_cases hn : n ≤ ds.length
    · rw [Nat.min_eq_left hn]
    · rw [Nat.min_eq_right (by omega), List.drop_length, List.drop_eq_nil_of_le (by omega)]
  rw [e1]
  refine List.take_of_length_le ?_
  rw [List.length_drop, HT.sIx_nat]
  omega
theorem maskOf_lots : ∀ h, h < 7 → ∀ l ∈ lotsL h, maskOf l < 2 ^ h := by decide +kernel
abbrev N_finish : List Str := ["news", "begun", "houses", "rest", "number", "some", "times", "streams", "spare", "lacking", "lot", "grew", "parts", "new", "rows", "forest", "many"]
abbrev ps_finish : List Str := ["news", "begun"]
theorem sc_finish : FnScope N_finish ps_finish (defScope sfinish) := ⟨rfl, rfl, rfl, by decide +kernel, rfl, by decide +kernel, by decide +kernel⟩
theorem nd_finish : N_finish.Nodup := sc_finish.nd
theorem bd_finish : BindH "finish" "finish" ps_finish sfinish := fun _ _ _ _ _ _ us hl => match us, hl with | [_, _], _ => rfl
theorem ok_finish {P : Program} {w : World} {mg : Str → Option Value} {base : Heap} {g : Gb} (c : Txt g mg base) : FOk P w g.K mg base 7 "finish" ps_finish (spFin g) := by
  have tx := txt_tx c
  refine FOk.raw (h_finish c) sc_finish bd_finish (fun vs H Q E h => ?_) fun cdv A outer s H E hr => ⟨_, (pss_cons (ps_par (i := 2) (j := 3) rfl nd_finish rfl rfl (by decide) rfl rfl (pa_cons (pe_callB (cLenO (ok_Net___len__ c) (hr.mono (by decide)) g.K) (by rfl) tx.len bt_len (pa_cons (peFld g.K (pv 0)) pa_nil)) (pa_cons (peMeth0 g.K (ok_Net_roads c) (hr.mono (by decide)) (peFld g.K (pv 0))) pa_nil)) (by rfl))
    (pss_cons (ps_for PassesOwn.never rfl (piL g.K (pv 1)) (pgT g.K 3 (pgs_cons (pg_name (i := 4) nd_finish rfl (Or.inl rfl)) (pgs_cons (pg_name (i := 5) nd_finish rfl (Or.inr rfl)) (pgs_cons (pg_name (i := 6) nd_finish rfl (Or.inl rfl)) pgs_nil)))) (pss_one (ps_set (i := 3) nd_finish rfl (Or.inl rfl) (pe_callF (ok_narrowed c) (hr.mono (by decide)) (pa_cons (pv 3) (pa_cons (pv 5) (pa_cons (pv 6) pa_nil)))))))
    (pss_cons (ps_set (i := 7) nd_finish rfl (Or.inl rfl) (pe_callF (ok_streams_left c) (hr.mono (by decide)) (pa_cons (pv 0) (pa_cons (pv 1) pa_nil))))
    (pss_cons (ps_set (i := 8) nd_finish rfl (Or.inr rfl) (pe_callF (ok_spares c) (hr.mono (by decide)) (pa_cons (pv 2) (pa_cons (pv 3) (pa_cons (pv 7) pa_nil)))))
    (pss_cons (ps_setLc (i := 9) rfl nd_finish rfl rfl (sw_true rfl rfl rfl (by decide +kernel)) (piL g.K (pe_callF (ok_all_lots c) (hr.mono (by decide)) (pa_cons (peFld g.K (pv 0)) pa_nil))) (blkOk_by (own := [("lot", 10)]) (N := N_finish) (sc := defScope sfinish) (by decide +kernel)) (fun _ _ _ _ _ => (pg_name (i := 10) nd_finish rfl (Or.inl rfl))) (fun _ _ _ _ _ => (pts_one (pt_cmpR op_lt (pe_ix (ixL g.K) (pv 8) (pe_callF (ok_mask_of c) (hr.mono (by decide)) (pa_cons (pv 10) pa_nil)) (fun _ _ => rfl)) pe_int (nomark _)))) (fun _ _ _ _ _ => (pv 10)))
    (pss_cons (ps_if (pt_cmpR (opNeD g.K hr.units) (pv 9) (pe_lst pa_nil) (nomark _)) (pss_one (ps_ret (pe_tup (pa_cons pe_str (pa_cons (pe_ix (ixL g.K) (pv 9) pe_int (fun _ _ => rfl)) pa_nil))))) pss_nil)
    (pss_cons (ps_par3 (i := 11) (j := 12) (l := 13) rfl nd_finish rfl rfl rfl (by decide) (by decide) (by decide) rfl rfl rfl (pa_cons (pe_callF (ok_grow c) (hr.mono (by decide)) (pa_cons (pv 2) (pa_cons (pv 3) (pa_cons (pv 7) pa_nil)))) (pa_cons (pe_lst pa_nil) (pa_cons (pe_lst pa_nil) pa_nil))) (by rfl))
    (pss_cons (ps_for PassesOwn.never rfl (piZip g.K tx.zip (pa_cons (pv 1) (pa_cons (pv 11) pa_nil))) (pgT g.K 2 (pgs_cons (pgT g.K 3 (pgs_cons (pg_name (i := 4) nd_finish rfl (Or.inl rfl)) (pgs_cons (pg_name (i := 5) nd_finish rfl (Or.inr rfl)) (pgs_cons (pg_name (i := 6) nd_finish rfl (Or.inl rfl)) pgs_nil)))) (pgs_cons (pg_name (i := 14) nd_finish rfl (Or.inl rfl)) pgs_nil))) (pss_one (ps_expr (pe_bm PySem.F.plainAttrs_list PySem.F.slot_list_append PySem.F.type_list_append mt_append (pv 12) (pa_cons (pe_lc rfl nd_finish (piL g.K (pv 14)) (blkOk_by (own := [("forest", 15), ("many", 16)]) (N := N_finish) (sc := defScope sfinish) (by decide +kernel)) (fun _ _ _ _ _ => (pgT g.K 2 (pgs_cons (pg_name (i := 15) nd_finish rfl (Or.inl rfl)) (pgs_cons (pg_name (i := 16) nd_finish rfl (Or.inl rfl)) pgs_nil)))) (fun _ _ _ _ _ => pts_nil) (fun _ _ _ _ _ => (pe_tup (pa_cons (pe_callTy (cTup g.K) (by rfl) tx.tuple bt_tuple (pa_cons (pe_callB (cSortedS g.K) (by rfl) tx.sorted bt_sorted (pa_cons (pe_op (opCatT g.K) (pv 5) (pv 15)) pa_nil)) pa_nil)) (pa_cons (pv 16) pa_nil))))) pa_nil)))))
    (pss_cons (ps_for PassesOwn.never rfl (piEnum g.K tx.enumerate (pa_cons (pe_slice (slL g.K) (pv 11) (po_some (pe_callB (cLen g.K) (by rfl) tx.len bt_len (pa_cons (pv 1) pa_nil))) po_none) pa_nil)) (pgT g.K 2 (pgs_cons (pg_name (i := 4) nd_finish rfl (Or.inl rfl)) (pgs_cons (pg_name (i := 14) nd_finish rfl (Or.inl rfl)) pgs_nil))) (pss_one (ps_for PassesOwn.never rfl (piL g.K (pv 14)) (pgT g.K 2 (pgs_cons (pg_name (i := 15) nd_finish rfl (Or.inl rfl)) (pgs_cons (pg_name (i := 6) nd_finish rfl (Or.inl rfl)) pgs_nil))) (pss_one (ps_expr (pe_bm PySem.F.plainAttrs_list PySem.F.slot_list_append PySem.F.type_list_append mt_append (pv 13) (pa_cons (pe_tup (pa_cons (pv 4) (pa_cons (pv 15) (pa_cons (pv 6) pa_nil)))) pa_nil)))))))
    (pss_one (ps_ret (pe_tup (pa_cons pe_str (pa_cons (pe_tup (pa_cons (pv 12) (pa_cons (pv 13) pa_nil))) pa_nil)))))))))))))), ?_⟩
  · obtain ⟨lf, F, h, rs, ms, B, _, a, _⟩ := h
    rw [a.length]
    rfl
  rintro vs H0 Q E' ⟨lf, F0, h, rs, ms, B, w0, a, ok, bo, hQ⟩
  have hh := ok.net.h6
  have h1 := ok.net.h1
  have hm := ok.few
  have hb := bo.few
  have hrl := ok.net.many
  have E0 : Ew g ⟨lf, F0, H0⟩ (L2.start N_finish vs) F0 H0 (startR N_finish [newsX h rs ms, .d (entsD B)]) := ew_start w0 a
  refine rq_st (M := fun ρ => ρ = [some (newsX h rs ms), some (.d (entsD B)), some (.d (.int (h : Int))), some (.d (rdsD rs)), none, none, none, none, none, none, none, none, none, none, none, none, none]) E0 (st_par (ea_cons (len_net (rs := rdsL rs) (ev_netN c (ms := ms) (ev_var rfl)) hh) (ea_cons (news_net_roads c (rs := rdsL rs) (ev_var rfl)) ea_nil)) rfl rfl rfl) ?_
  rintro σ1 F1 H1 _ s1 E1 rfl
  refine rq_st (M := fun ρ => ∃ a b d, ρ = [some (newsX h rs ms), some (.d (entsD B)), some (.d (.int (h : Int))), some (.d (rdsD (restB rs B))), a, b, d, none, none, none, none, none, none, none, none, none, none]) E1 (st_for (it_list (ev_var rfl))
    (fun _ i ρ => ∃ a b d, ρ = [some (newsX h rs ms), some (.d (entsD B)), some (.d (.int (h : Int))), some (.d (rdsD (restB rs (B.take i)))), a, b, d, none, none, none, none, none, none, none, none, none, none]) ?_ ?_ ?_) ?_
  · rintro ds rfl
    exact ⟨none, none, none, rfl⟩
  · rintro ds i d ρ rfl hd ⟨a1, a2, a3, rfl⟩
    rw [List.getElem?_map] at hd
    cases hs : B[i]? with
    | none => rw [hs] at hd; cases hd
    | some x =>
      rw [hs] at hd
      obtain ⟨n, row, t⟩ := x
      cases hd
      refine ⟨_, _, tg_tup (tgs_cons tg_d (tgs_cons tg_d (tgs_cons tg_d tgs_nil))) rfl, ?_⟩
      refine st_set (x := .d (rdsD (restB rs (B.take (i + 1))))) (ev_call (ea_cons (ev_var rfl) (ea_cons (ev_var rfl) (ea_cons (ev_var rfl) ea_nil))) ⟨restB rs (B.take i), row, t, rfl, by rw [restB_len]; omega, by rw [restB_take hs]⟩) rfl ⟨some (.d (.int (n : Int))), some (.d (tupN row)), some (.d (.int t)), rfl⟩
  · rintro ds ρ rfl ⟨a1, a2, a3, rfl⟩
    refine ⟨a1, a2, a3, ?_⟩
    rw [List.length_map, List.take_length]
  rintro σ2 F2 H2 _ s2 E2 ⟨a4, a5, a6, rfl⟩
  refine rq_st (M := fun ρ => ρ = _) E2 (st_set (x := .d (stsD (streamsLeft rs ms B))) (ev_call (ea_cons (ev_var rfl) (ea_cons (ev_var rfl) ea_nil)) ⟨h, rs, ms, B, rfl, ok, bo, rfl⟩) rfl rfl) ?_
  rintro σ3 F3 H3 _ s3 E3 rfl
  refine rq_st (M := fun ρ => ρ = _) E3 (st_set (x := .d (intL (sparesM h (restB rs B) (streamsLeft rs ms B)))) (ev_call (ea_cons (ev_var rfl) (ea_cons (ev_var rfl) (ea_cons (ev_var rfl) ea_nil))) ⟨h, restB rs B, streamsLeft rs ms B, rfl, hh, by rw [restB_len]; omega, rfl⟩) rfl rfl) ?_
  rintro σ4 F4 H4 _ s4 E4 rfl
  have hspl := spares_len h (restB rs B) (streamsLeft rs ms B)
  refine rq_st (M := fun ρ => ρ = _) E4 (st_set (x := .d (lotsD (lackM h rs ms B))) (ev_lc (l := lotsL h) (enc := tupN) (p := fun l => decide ((sparesM h (restB rs B) (streamsLeft rs ms B)).getD (maskOf l) 0 < 0)) (f := tupN) (it_list (lots_call (rs := rs) (ev_netN c (ms := ms) (ev_var rfl)) hh)) (by have := lotsL_len h (by omega); omega) fun l hl => ⟨_, _, tg_d, by decide, ?_, fun _ => ev_var rfl⟩) rfl rfl) ?_
  · obtain ⟨_, lp, lv⟩ := lotsL_ok h (by omega) l hl
    have hml : maskOf l < (sparesM h (restB rs B) (streamsLeft rs ms B)).length := by rw [hspl]; exact maskOf_lots h (by omega) l hl
    refine eb_test (ev_lt (ev_ixLn (ev_var rfl) (mask_call (l := l) (ev_var rfl) rfl (fun v hv => by have := lv v hv; omega) (by have := LotOk.len (h := h) ⟨(lotsL_ok h (by omega) l hl).1, lp, lv⟩ hh; omega)) rfl ?_) ev_int)
    rw [List.getElem?_map, List.getD_eq_getElem?_getD, List.getElem?_eq_getElem hml]
    rfl
  rintro σ5 F5 H5 _ s5 E5 rfl
  have tst : EvB g (tTest (tOp (rNeD g.K) (tVar 9) (tLst tNil))) _ (!decide ((lackM h rs ms B).map tupN = [])) := (eb_test (ev_neD (ev_var (ρ := ((([some (newsX h rs ms), some (.d (entsD B)), some (.d (.int (h : Int))), some (.d (rdsD (restB rs B))), a4, a5, a6, none, none, none, none, none, none, none, none, none, none] : Rho).set 7 (some (.d (stsD (streamsLeft rs ms B))))).set 8 (some (.d (intL (sparesM h (restB rs B) (streamsLeft rs ms B)))))).set 9 (some (.d (lotsD (lackM h rs ms B))))) rfl) (ev_lst ed_nil) (pl_lots _).sh rfl)).is (by show (!PyData.eqv (.list ((lackM h rs ms B).map tupN)) (.list [])) = _; rw [eqv_nil])
  rcases hQ with ⟨l, L, hl, hQ⟩ | ⟨hl, res, hO, hrows, hlens, hQ⟩
  · refine (sq_ifB (po := ⟨fun _ => False, fun x => x = .d (.tuple [.str "no", tupN l]), fun _ => False, fun _ => False⟩) tst (fun _ => sq_ret (st_ret (ev_tup (ds := [.str "no", tupN l]) (ea_cons ev_str (ea_cons (ev_ixLn (ds := (lackM h rs ms B).map tupN) (ev_var rfl) (ev_n 0) rfl (by rw [hl]; rfl)) ea_nil)) (by simp)) rfl)) (fun e => by rw [hl] at e; simp at e)) _ _ _ _ _ E5 ⟨fun _ _ _ _ _ _ z => z.elim, fun v F' H' x gr fx px => ?_, fun _ _ _ _ _ _ z => z.elim, fun _ _ _ _ _ _ z => z.elim⟩
    subst px
    exact hQ v F' H' gr fx
  refine rq_if E5 tst (by rw [hl]; rfl) fun F6 H6 E6 r6 => ?_
  have hsl : (streamsLeft rs ms B).length = B.length + ms.length := by
    unfold streamsLeft
    simp
  have hlen : res.length = B.length + ms.length := by
    have := hO.len
    rw [hsl] at this
    omega
  refine rq_par3L (a := .d (.list (res.map rowsD))) (b := .own []) (c := .own []) E6 (el_d (ev_call (ea_cons (ev_var rfl) (ea_cons (ev_var rfl) (ea_cons (ev_var rfl) ea_nil))) ⟨h, restB rs B, streamsLeft rs ms B, res, rfl, h1, hh, by rw [restB_len]; omega, restB_ends B (fun r hr => by have := (ok.net.road r hr).2.1; omega), by omega, hO, hrows, rfl⟩) (el_o ew_nil (el_o ew_nil el_nil))) fun σ7 F7 H7 s7 E7 => ?_
  -- parts
  refine rq_for2 (tg := gTup g.K 2 (gCons (gTup g.K 3 (gCons (gName 4) (gCons (gName 5) (gCons (gName 6) gNil)))) (gCons (gName 14) gNil))) E7 (it_zipM (a := B) (b := res) (f := entD) (k := rowsD) (ev_var rfl) (ev_var rfl)) (fun i ρ σ F H => (∃ b1 b2 b3 b4, ρ = [some (newsX h rs ms), some (.d (entsD B)), some (.d (.int (h : Int))), some (.d (rdsD (restB rs B))), b1, b2, b3, some (.d (stsD (streamsLeft rs ms B))), some (.d (intL (sparesM h (restB rs B) (streamsLeft rs ms B)))), some (.d (lotsD (lackM h rs ms B))), none, some (.d (.list (res.map rowsD))), some (.own ((partsTo B res i).map rowsD)), some (.own []), b4, none, none]) ∧
    ∃ (p : Addr) (ls : List Addr), σ[12]? = some (some (.ref p)) ∧ H p = some (.lst (ls.map V.ref)) ∧ ls.Nodup ∧ ∀ l ∈ ls, H0 l = none ∧ H l ≠ none) ?_ ?_ ?_
  · rintro F8 H8 r8 E8
    refine ⟨⟨a4, a5, a6, none, rfl⟩, ?_⟩
    obtain ⟨v, hv, p, vs', rfl, o, q⟩ := E8.bd 12 _ rfl
    cases q
    exact ⟨p, [], hv, o.h, List.nodup_nil, fun l hl => by cases hl⟩
  · rintro i d ρ1 σ8 F8 H8 hd s8 E8 ⟨⟨b1, b2, b3, b4, rfl⟩, p, ls, hs12, hp, hnd, hnew⟩
    rw [List.getElem?_map] at hd
    cases hz : (List.zip B res)[i]? with
    | none => rw [hz] at hd; cases hd
    | some x =>
      rw [hz] at hd
      obtain ⟨⟨n, row, t⟩, rows⟩ := x
      cases hd
      have hmB : (n, row, t) ∈ B := (List.of_mem_zip (List.mem_of_getElem? hz)).1
      have hmR : rows ∈ res := (List.of_mem_zip (List.mem_of_getElem? hz)).2
      have hrow : row.length ≤ rs.length := (bo.ent _ hmB).2.1.len
      refine ⟨_, _, tg_tup (tgs_cons (tg_tup (tgs_cons tg_d (tgs_cons tg_d (tgs_cons tg_d tgs_nil))) rfl) (tgs_cons tg_d tgs_nil)) rfl, fun σ9 F9 H9 D' hrt r9 E9 hσ nx => ?_⟩
      have h12 : σ9[12]? = some (some (.ref p)) := by rw [hσ 12 (by simp)]; exact hs12
      refine raw_appW (ds := (partsTo B res i).map rowsD) (es := rows.map fun r : Rwx => rwD (srtN (row ++ r.1), r.2)) E9 rfl (ew_lcA (l := rows) (enc := rwD) (f := fun r : Rwx => rwD (srtN (row ++ r.1), r.2)) (it_list (ev_var rfl)) (by have := hrows rows hmR; omega) fun r hr => ⟨_, _, tg_tup (tgs_cons tg_d (tgs_cons tg_d tgs_nil)) rfl, by decide, ev_tup (ds := [tupN (srtN (row ++ r.1)), .int r.2]) (ea_cons (ev_tupL (ev_sortedN (ns := row ++ r.1) (ev_catT (ds := natsL row) (es := natsL r.1) (ev_var rfl) (ev_var rfl) ?_) ?_) rfl) (ea_cons (ev_var rfl) ea_nil)) (by simp)⟩) ?_ ?_
      · have := hlens rows hmR r hr
        rw [natsL_length, natsL_length]
        omega
      · show some (natsL row ++ natsL r.1) = _
        unfold natsL
        rw [List.map_append]
      · rw [List.length_map]
        unfold partsTo
        rw [List.length_map, List.length_take, List.length_zip]
        omega
      · intro l vs1 q F10 H10 hsl2 hl2 hqn sm hH10 hkeep hq10 E10
        rw [h12] at hsl2
        obtain rfl : p = l := V.ref.inj (Option.some.inj (Option.some.inj hsl2))
        have hp9 : H9 p = some (.lst (ls.map V.ref)) := by
          obtain ⟨v, hv, p', vs', rfl, o, _⟩ := E8.bd 12 _ rfl
          rw [hs12] at hv
          obtain rfl : p = p' := V.ref.inj (Option.some.inj (Option.some.inj hv))
          exact r9.hh p _ o.T o.lf hp
        rw [hp9] at hl2
        obtain rfl : ls.map V.ref = vs1 := HO.lst.inj (Option.some.inj hl2)
        have key : ∀ a, H8 a ≠ none → H9 a ≠ none := fun a ha => by
          obtain ⟨o, ho⟩ := Option.ne_none_iff_exists'.mp ha
          by_cases hT : a = g.T
          · obtain ⟨ps, hps⟩ := r9.wl.tbl
            rw [hT, hps]
            exact fun z => nomatch z
          · by_cases hl : lf = some a
            · obtain ⟨_, x, y, hxy, _⟩ := r9.wl.feed a hl
              rw [hxy]
              exact fun z => nomatch z
            · rw [r9.hh a o hT hl ho]
              exact fun z => nomatch z
        refine nx _ F10 H10 _ sm E10 ⟨⟨some (.d (.int (n : Int))), some (.d (tupN row)), some (.d (.int t)), some (.d (rowsD rows)), ?_⟩, p, ls ++ [q], h12, ?_, ?_, fun l hl => ?_⟩
        · rw [partsTo_succ hz, List.map_append (l₁ := partsTo B res i)]
          simp only [List.map_cons, List.map_nil, rowsD, List.map_map]
          rfl
        · rw [hH10, List.map_append]
          rfl
        · refine List.nodup_append.mpr ⟨hnd, List.nodup_cons.mpr ⟨by simp, List.nodup_nil⟩, fun a ha b hb e => ?_⟩
          rw [List.mem_singleton.mp hb] at e
          exact key a (hnew a ha).2 (by rw [e]; exact hqn)
        · rcases List.mem_append.mp hl with hl | hl
          · exact ⟨(hnew l hl).1, hkeep l (key l (hnew l hl).2)⟩
          · rw [List.mem_singleton.mp hl]
            exact ⟨E9.h0 hqn, hq10⟩
  rintro ρ8 σ8 F8 H8 s8 E8 ⟨⟨b1, b2, b3, b4, rfl⟩, p, ls, hs12, hp, hnd, hnew⟩
  rw [List.length_map, partsTo_all] at E8
  obtain ⟨v, hv, p', vs', rfl, o12, q12⟩ := E8.bd 12 _ rfl
  rw [hs12] at hv
  obtain rfl : p = p' := V.ref.inj (Option.some.inj (Option.some.inj hv))
  have o12h := o12.h
  rw [hp] at o12h
  obtain rfl : ls.map V.ref = vs' := HO.lst.inj (Option.some.inj o12h)
  have hF8 : ∀ l ∈ ls, ∃ xs, F8 l = some (.lst xs) := fun l hl => by
    obtain ⟨k, hk⟩ := List.mem_iff_getElem?.mp hl
    have h2 : (ls.map V.ref)[k]? = some (.ref l) := by rw [List.getElem?_map, hk]; rfl
    have kl : k < ((partsOf B res).map rowsD).length := by
      rw [← q12.length]
      exact (List.getElem?_eq_some_iff.mp h2).1
    have h3 := q12.got h2 (List.getElem?_eq_getElem kl)
    rw [List.getElem_map] at h3
    obtain ⟨a, xs, e1, e2, _⟩ := Dq.lst_of (ds := _) h3
    cases e1
    exact ⟨xs, e2⟩
  have hpl : p ∉ ls := fun z => by
    obtain ⟨xs, hx⟩ := hF8 p z
    rw [o12.f] at hx
    cases hx
  have hp0 : H0 p = none := o12.h0
  obtain ⟨F9, sm9, E9⟩ := E8.freeze (i := 12) rfl
  obtain ⟨v9, hv9, rx9⟩ := E9.bd 12 _ rfl
  rw [hs12] at hv9
  cases hv9
  obtain ⟨p9, xs9, e9, hF9, q9⟩ := Dq.lst_of (F := F9) rx9
  cases e9
  have hH9 := E9.wl.same _ _ hF9
  rw [hp] at hH9
  obtain rfl : ls.map V.ref = xs9 := HO.lst.inj (Option.some.inj hH9)
  have hdl : ∀ rows ∈ res.drop B.length, rows.length ≤ 1000 := fun rows hr => hrows rows (List.mem_of_mem_drop hr)
  have hdn : (res.drop B.length).length ≤ 3 := by rw [List.length_drop]; omega
  -- new
  refine rq_for2 (tg := gTup g.K 2 (gCons (gName 4) (gCons (gName 14) gNil))) E9 (it_enumR (l := res.drop B.length) (enc := rowsD) [] ((ev_slL (ds := res.map rowsD) (lo := some (B.length : Int)) (hi := none) (ev_var rfl) rfl (eo_some ((ev_len (ev_var rfl) rfl).is (by rw [List.length_map]))) eo_none).is (by rw [cut_drop, List.map_drop]))) (fun i ρ σ F H => (∃ c4 c6 c14 c15, ρ = [some (newsX h rs ms), some (.d (entsD B)), some (.d (.int (h : Int))), some (.d (rdsD (restB rs B))), c4, b2, c6, some (.d (stsD (streamsLeft rs ms B))), some (.d (intL (sparesM h (restB rs B) (streamsLeft rs ms B)))), some (.d (lotsD (lackM h rs ms B))), none, some (.d (.list (res.map rowsD))), some (.d (.list ((partsOf B res).map rowsD))), some (.own ((entsTo (res.drop B.length) i).map entD)), c14, c15, none]) ∧
    σ[12]? = some (some (.ref p))) ?_ ?_ ?_
  · intro F10 H10 r10 E10
    exact ⟨⟨_, _, _, _, rfl⟩, hs12⟩
  · rintro i d ρ1 σ10 F10 H10 hd s10 E10 ⟨⟨c4, c6, c14, c15, rfl⟩, h12⟩
    obtain ⟨hi, rfl⟩ := range_get hd
    refine ⟨_, _, tg_tup (tgs_cons tg_d (tgs_cons tg_d tgs_nil)) rfl, fun σ11 F11 H11 D' hrt r11 E11 hσ nx => ?_⟩
    have h12' : σ11[12]? = some (some (.ref p)) := by rw [hσ 12 (by simp)]; exact h12
    refine raw_for (tg := gTup g.K 2 (gCons (gName 15) (gCons (gName 6) gNil))) E11 (it_list (ds := ((res.drop B.length).getD i []).map rwD) (ev_var rfl)) (fun j ρ σ F H => (∃ c6 c15, ρ = [some (newsX h rs ms), some (.d (entsD B)), some (.d (.int (h : Int))), some (.d (rdsD (restB rs B))), some (.d (.int (i : Int))), b2, c6, some (.d (stsD (streamsLeft rs ms B))), some (.d (intL (sparesM h (restB rs B) (streamsLeft rs ms B)))), some (.d (lotsD (lackM h rs ms B))), none, some (.d (.list (res.map rowsD))), some (.d (.list ((partsOf B res).map rowsD))), some (.own ((entsTo (res.drop B.length) i).map entD ++ (entsAt i (((res.drop B.length).getD i []).take j)).map entD)), some (.d (rowsD ((res.drop B.length).getD i []))), c15, none]) ∧
      σ[12]? = some (some (.ref p))) ?_ ?_ ?_
    · intro F12 H12 r12 E12
      refine ⟨⟨c6, c15, ?_⟩, h12'⟩
      have e0 : ∀ z : List PyData, z ++ (entsAt i []).map entD = z := fun z => List.append_nil z
      rw [List.take_zero, e0]
      rfl
    · rintro j d ρ1 σ12 F12 H12 hd2 s12 E12 ⟨⟨c6, c15, rfl⟩, h12⟩
      rw [List.getElem?_map] at hd2
      cases hs : ((res.drop B.length).getD i [])[j]? with
      | none => rw [hs] at hd2; cases hd2
      | some r =>
        rw [hs] at hd2
        obtain ⟨fo, t⟩ := r
        cases hd2
        refine ⟨_, _, tg_tup (tgs_cons tg_d (tgs_cons tg_d tgs_nil)) rfl, fun σ13 F13 H13 D2 hrt2 r13 E13 hσ2 nx2 => ?_⟩
        refine raw_app2 (i := 13) E13 rfl (ev_tup (ds := [.int (i : Int), tupN fo, .int t]) (ea_cons (ev_var rfl) (ea_cons (ev_var rfl) (ea_cons (ev_var rfl) ea_nil))) (by simp)) ?_ fun F14 H14 s14 E14 => ?_
        · have h1 := entsTo_len hdl i
          have h2 := getD_len hdl i
          have h3 : ((entsTo (res.drop B.length) i).map entD).length = (entsTo (res.drop B.length) i).length := List.length_map _
          have h4 : ((entsAt i (((res.drop B.length).getD i []).take j)).map entD).length ≤ 1000 := by
            rw [List.length_map]
            unfold entsAt
            rw [List.length_map, List.length_take]
            omega
          rw [List.length_append]
          omega
        · refine nx2 _ F14 H14 _ s14 E14 ⟨⟨some (.d (.int t)), some (.d (tupN fo)), ?_⟩, by rw [hσ2 12 (by simp)]; exact h12⟩
          rw [← entsAt_take hs, ← List.append_assoc]
          rfl
    · rintro ρ1 σ12 F12 H12 s12 E12 ⟨⟨c6, c15, rfl⟩, h12⟩
      refine nx _ F12 H12 _ s12 E12 ⟨⟨some (.d (.int (i : Int))), c6, some (.d (rowsD ((res.drop B.length).getD i []))), c15, ?_⟩, h12⟩
      rw [entsTo_succ, List.length_map, List.take_length, List.map_append]
  rintro ρ10 σ10 F10 H10 s10 E10 ⟨⟨c4, c6, c14, c15, rfl⟩, h12⟩
  rw [List.length_map, List.length_range] at E10
  obtain ⟨v13, hv13, nw, vs13, rfl, o13, q13⟩ := E10.bd 13 _ rfl
  obtain ⟨F11, sm11, E11⟩ := E10.freeze (i := 13) rfl
  obtain ⟨v11, hv11, rx11⟩ := E11.bd 13 _ rfl
  rw [hv13] at hv11
  cases hv11
  have nep : p ≠ nw := fun z => by
    have := s10 _ _ hF9
    rw [z, o13.f] at this
    cases this
  have nel : nw ∉ ls := fun z => by
    obtain ⟨xs, hx⟩ := hF8 nw z
    have := s10 _ _ (sm9 _ _ hx)
    rw [o13.f] at this
    cases this
  refine ⟨.ref p, h12, .ref nw, hv13, by show 2 ≤ sizeLine; decide, fun u hu => ⟨by show 2 ≤ sizeLine; decide, fun t ht => ?_⟩⟩
  have g1 : Gr g lf F11 H10 (upd F11 u (.tup [.ref p, .ref nw])) (upd H10 u (.tup [.ref p, .ref nw])) := Gr.new E11.wl hu
  have g2 := Gr.new (o := .tup [V.str "yes", .ref u]) g1.wl ht
  have sm := g1.ff.trans g2.ff
  refine hQ _ _ _ (E11.gr.trans w0 (g1.trans E11.wl g2)) ⟨t, u, p, nw, ls, rfl, upd_same, g2.ff _ _ upd_same, sm _ _ (sm11 _ _ (s10 _ _ hF9)), q9.mono ((s10.trans sm11).trans sm), Dq.mono sm rx11, ?_, ?_⟩
  · refine List.nodup_cons.mpr ⟨fun z => ?_, List.nodup_cons.mpr ⟨nel, hnd⟩⟩
    rcases List.mem_cons.mp z with z | z
    · exact nep z
    · exact hpl z
  · intro a ha
    rcases List.mem_cons.mp ha with z | ha
    · rw [z]; exact hp0
    · rcases List.mem_cons.mp ha with z | ha
      · rw [z]; exact o13.h0
      · exact (hnew a ha).1
end TB
set_option Elab.async false
set_option linter.all false
set_option autoImplicit false
set_option maxRecDepth 100000
set_option maxHeartbeats 4000000
namespace TB
open PySem PySem.Spec PyProof.Rows L2
section
variable {g : Gb} {lf : Option Addr} {F H : Hp} {ρ : Rho} {te ta tb : TE} {ts tu : TS} {po : Po} {P : Dx → Prop}
theorem Wl.feedW (w : Wl g lf F H) {l : Addr} (hl : lf = some l) {a b : Int} (h : FeedOk a b) : Gr g lf F H F (upd H l (.lst [.int a, .int b])) := by
  obtain ⟨hF, x, y, hx, _⟩ := w.feed l hl
  refine ⟨Same.refl F, fun c o h1 h2 h3 => ?_, ⟨fun c o h3 => ?_, tabS_write w.tab hx (fun _ z => nomatch z) (fun _ z => nomatch z), w.fT, fun l' hl' => ?_, one_upd w.one fun _ z => nomatch z⟩, fun c o h1 h2 => h1⟩
  · rw [upd_ne (fun z => h2 (by rw [z]; exact hl))]
    exact h3
  · rw [upd_ne (fun z => by rw [z, hF] at h3; cases h3)]
    exact w.same c o h3
  · rw [hl] at hl'
    cases hl'
    exact ⟨hF, a, b, upd_same, h⟩
/-- feed[0], feed[1] -/
theorem ev_feed {K : PySem.W.Frag} {i n : Nat} (hi : ρ[i]? = some (some .feed)) (hn : n < 2) : EvP g (tOp (rIxL K) (tVar i) (tC (.int (n : Int)))) ρ (fun x => ∃ a : Int, x = .d (.int a) ∧ 0 ≤ a ∧ (n = 1 → a < 4294967311)) := fun e σ F H E Q q => by
  obtain ⟨v, hv, l, rfl, hl⟩ := E.bd i _ hi
  obtain ⟨hF, a, b, hH, h1, h2, h3⟩ := E.wl.feed l hl
  match n, hn with
  | 0, _ => exact ⟨.ref l, hv, l, [.int a, .int b], 0, .int a, rfl, rfl, SqL.of hH, rfl, q _ F H _ (Gr.refl E.wl) (rx_d (Dq.int a)) ⟨a, rfl, h1, fun z => by cases z⟩⟩
  | 1, _ => exact ⟨.ref l, hv, l, [.int a, .int b], 1, .int b, rfl, rfl, SqL.of hH, rfl, q _ F H _ (Gr.refl E.wl) (rx_d (Dq.int b)) ⟨b, rfl, h2, fun _ => h3⟩⟩
/-- feed[0] = .., feed[1] = .. -/
theorem sq_feedW {i n : Nat} (hi : ρ[i]? = some (some .feed)) (hn : n < 2) (h : EvP g te ρ (fun x => ∃ a : Int, x = .d (.int a) ∧ 0 ≤ a ∧ (n = 1 → a < 4294967311))) (k : StP g tu ρ po) : StP g (tSeq (tAsg te (gSub (tVar i) (tC (.int (n : Int))) rSetL)) tu) ρ po :=
  st_seq (M := fun r => r = ρ) (fun e σ F H D E w => h e σ F H E _ fun v F1 H1 x r1 rx p => by
    obtain ⟨a', rfl, p1, p2⟩ := p
    have hv' : v = .int a' := Dq.int_eq rx
    subst hv'
    have E1 := E.grow r1
    obtain ⟨v, hv, l, rfl, hl⟩ := E1.bd i _ hi
    obtain ⟨hF, a, b, hH, h1, h2, h3⟩ := E1.wl.feed l hl
    match n, hn, p2 with
    | 0, _, p2 => exact ⟨.ref l, hv, l, [.int a, .int b], 0, 0, rfl, rfl, hH, rfl, w.nx _ F1 _ _ r1.ff (E1.grow (E1.wl.feedW hl ⟨p1, h2, h3⟩)) rfl⟩
    | 1, _, p2 => exact ⟨.ref l, hv, l, [.int a, .int b], 1, 1, rfl, rfl, hH, rfl, w.nx _ F1 _ _ r1.ff (E1.grow (E1.wl.feedW hl ⟨h1, p1, p2 rfl⟩)) rfl⟩) fun r e => by rw [e]; exact k
end
def S__law_take : SpD := fun xs P => ∃ (m : Nat), xs = [.feed, .d (.int (m : Int))] ∧ 1 ≤ m ∧ m ≤ 1000000000000 ∧ ∀ k : Nat, k < m → P (.d (.int (k : Int)))
theorem divW_ok {m : Nat} (h1 : 1 ≤ m) (h2 : m ≤ 1000000000000) (i : Int) : CDivW i (m : Int) := by
  refine ⟨by omega, ?_⟩
  rw [Int.natAbs_natCast, Nat.log2_lt (by omega)]
  exact Nat.lt_of_le_of_lt h2 (Nat.lt_of_lt_of_le (by decide : 1000000000000 < 2 ^ 40) (Nat.pow_le_pow_right (by decide) (by decide)))
theorem mod_nat {a : Int} {m : Nat} (h1 : 1 ≤ m) (ha : 0 ≤ a) : ∃ k : Nat, k < m ∧ a % (m : Int) = (k : Int) := by
  refine ⟨(a % (m : Int)).toNat, ?_, ?_⟩
  · have := Int.emod_lt_of_pos a (show (0 : Int) < m by omega)
    have := Int.emod_nonneg a (show (m : Int) ≠ 0 by omega)
    omega
  · rw [Int.toNat_of_nonneg (Int.emod_nonneg a (by omega))]
abbrev N__law_take : List Str := ["_law_feed_here", "_law_many", "_law_digit"]
abbrev ps__law_take : List Str := ["_law_feed_here", "_law_many"]
theorem sc__law_take : FnScope N__law_take ps__law_take (defScope s_law_take) := ⟨rfl, rfl, rfl, by decide +kernel, rfl, by decide +kernel, by decide +kernel⟩
theorem nd__law_take : N__law_take.Nodup := sc__law_take.nd
theorem bd__law_take : BindH "_law_take" "_law_take" ps__law_take s_law_take := fun _ _ _ _ _ _ us hl => match us, hl with | [_, _], _ => rfl
theorem ok__law_take {P : Program} {w : World} {mg : Str → Option Value} {base : Heap} {g : Gb} (c : Txt g mg base) : FOk P w g.K mg base 1 "_law_take" ps__law_take (spOf g S__law_take) := by
  have tx := txt_tx c
  refine FOk.mk' (h__law_take c) sc__law_take bd__law_take (by intro xs Q h; unfold S__law_take at h; (repeat' (rcases h with ⟨_, h⟩)); subst_vars; rfl) fun cdv A outer s H E hr => ⟨_, (pss_cons (ps_if (pt_cmpR op_gt (pe_ix (ixL g.K) (pv 0) pe_int (fun _ _ => rfl)) pe_int (nomark _)) (pss_cons (ps_set (i := 2) nd__law_take rfl (Or.inl rfl) (pe_op op_mod (pe_callTy cInt (by rfl) tx.int bt_int (pa_cons (pe_ix (ixL g.K) (pv 0) pe_int (fun _ _ => rfl)) pa_nil)) (pv 1)))
    (pss_cons (ps_asg (pe_op op_fdivW (pe_ix (ixL g.K) (pv 0) pe_int (fun _ _ => rfl)) (pv 1)) (pg_sub (pv 0) pe_int set_list))
    (pss_one (ps_ret (pv 2))))) pss_nil)
    (pss_cons (ps_asg (pe_op op_mod (pe_callTy cInt (by rfl) tx.int bt_int (pa_cons (pe_op op_add (pe_op op_mul (pe_ix (ixL g.K) (pv 0) pe_int (fun _ _ => rfl)) pe_int) pe_int) pa_nil)) pe_int) (pg_sub (pv 0) pe_int set_list))
    (pss_one (ps_ret (pe_op op_mod (pe_callTy cInt (by rfl) tx.int bt_int (pa_cons (pe_op op_fdivW (pe_ix (ixL g.K) (pv 0) pe_int (fun _ _ => rfl)) pe_int) pa_nil)) (pv 1)))))), ?_⟩
  rintro xs Q ⟨m, rfl, h1, h2, hQ⟩
  refine sq_if (P1 := fun _ => True) (et_test (evp_I0 (k := fun i j => .bl (decide (j < i))) (f := fun i j => .bool (decide (j < i))) (Pa := fun a => 0 ≤ a) (Pb := fun b => b = 0) ((ev_feed (n := 0) rfl (by decide)).imp fun x ⟨a, e, p, _⟩ => ⟨a, e, p⟩) (ev_int (i := 0)).int fun i j _ _ => ⟨rfl, _, rfl, trivial⟩)) (fun _ => ?_) fun _ => ?_
  · refine st_seq (M := fun _ => False) ?_ fun _ z => z.elim
    refine sq_setP (P := fun x => ∃ k : Nat, k < m ∧ x = .d (.int (k : Int))) (evp_I (C := fun _ j => 0 < j) (k := fun i j => .int (i % j)) (f := fun i j => .int (i % j)) (Pa := fun a => 0 ≤ a) (Pb := fun b => b = (m : Int)) (evp_intI (Pi := fun a => 0 ≤ a) ((ev_feed (n := 0) rfl (by decide)).imp fun x ⟨a, e, p, _⟩ => ⟨a, e, p⟩) fun i p => ⟨i, rfl, p⟩) (Ev.int (ev_var rfl)) fun i j pi pj => ?_) (fun x ⟨k, _, e⟩ => by rw [e]; rfl) ?_
    · subst pj
      obtain ⟨k, hk, e⟩ := mod_nat h1 pi
      exact ⟨by omega, rfl, k, hk, by rw [e]⟩
    rintro x ⟨k, hk, rfl⟩
    refine sq_feedW (n := 0) rfl (by decide) (evp_I (C := CDivW) (k := fun i j => .int (i / j)) (f := fun i j => .int (i / j)) (Pa := fun a => 0 ≤ a) (Pb := fun b => b = (m : Int)) ((ev_feed (n := 0) rfl (by decide)).imp fun x ⟨a, e, p, _⟩ => ⟨a, e, p⟩) (Ev.int (ev_var rfl)) fun i j pi pj => ?_) ?_
    · subst pj
      exact ⟨divW_ok h1 h2 i, rfl, _, rfl, Int.ediv_nonneg pi (by omega), fun z => by cases z⟩
    exact st_ret (ev_var rfl) (hQ k hk)
  · refine sq_nx ?_
    refine sq_feedW (n := 1) rfl (by decide) (evp_I (C := fun _ j => 0 < j) (k := fun i j => .int (i % j)) (f := fun i j => .int (i % j)) (Pa := fun a => 0 ≤ a) (Pb := fun b => b = 4294967311) (evp_intI (Pi := fun a => 0 ≤ a) (evp_I0 (k := fun i j => .int (i + j)) (f := fun i j => .int (i + j)) (Pa := fun a => 0 ≤ a) (Pb := fun a => a = 12345) (evp_I (C := CMul) (k := fun i j => .int (i * j)) (f := fun i j => .int (i * j)) (Pa := fun a => 0 ≤ a) (Pb := fun a => a = 69069) ((ev_feed (n := 1) rfl (by decide)).imp fun x ⟨a, e, p, _⟩ => ⟨a, e, p⟩) (ev_int (i := 69069)).int fun i j pi pj => ?_) (ev_int (i := 12345)).int fun i j pi pj => ?_) fun i p => ⟨i, rfl, p⟩) (ev_int (i := 4294967311)).int fun i j pi pj => ?_) ?_
    · subst pj
      exact ⟨.inr ⟨by decide, by decide⟩, rfl, _, rfl, Int.mul_nonneg pi (by decide)⟩
    · subst pj
      exact ⟨rfl, _, rfl, by omega⟩
    · subst pj
      exact ⟨by decide, rfl, _, rfl, Int.emod_nonneg _ (by decide), fun _ => Int.emod_lt_of_pos _ (by decide)⟩
    refine st_retP (evp_I (C := fun _ j => 0 < j) (k := fun i j => .int (i % j)) (f := fun i j => .int (i % j)) (Pa := fun a => 0 ≤ a) (Pb := fun b => b = (m : Int)) (evp_intI (Pi := fun a => 0 ≤ a) (evp_I (C := CDivW) (k := fun i j => .int (i / j)) (f := fun i j => .int (i / j)) (Pa := fun a => 0 ≤ a) (Pb := fun b => b = 65536) ((ev_feed (n := 1) rfl (by decide)).imp fun x ⟨a, e, p, _⟩ => ⟨a, e, p⟩) (ev_int (i := 65536)).int fun i j pi pj => ?_) fun i p => ⟨i, rfl, p⟩) (Ev.int (ev_var rfl)) fun i j pi pj => ?_)
    · subst pj
      exact ⟨divW_ok (m := 65536) (by decide) (by decide) i, rfl, _, rfl, Int.ediv_nonneg pi (by decide)⟩
    · subst pj
      obtain ⟨k, hk, e⟩ := mod_nat h1 pi
      exact ⟨by omega, rfl, rfl, by rw [e]; exact hQ k hk⟩
/-- a take from the feed -/
theorem ev_take {g : Gb} {ta tb : TE} {ρ : Rho} {m : Nat} (ha : Ev g ta ρ .feed) (hb : Ev g tb ρ (.d (.int (m : Int)))) (h1 : 1 ≤ m) (h2 : m ≤ 1000000000000) : EvP g (tCall (spOf g S__law_take) [] E0 (tCons ta (tCons tb tNil))) ρ (fun x => ∃ k : Nat, x = .d (.int (k : Int)) ∧ k < m) := ev_call (ea_cons ha (ea_cons hb ea_nil)) ⟨m, rfl, h1, h2, fun k hk => ⟨k, rfl, hk⟩⟩
theorem ev_takeI {g : Gb} {ta tb : TE} {ρ : Rho} {m : Nat} (ha : Ev g ta ρ .feed) (hb : Ev g tb ρ (.d (.int (m : Int)))) (h1 : 1 ≤ m) (h2 : m ≤ 1000000000000) : EvP g (tCall (spOf g S__law_take) [] E0 (tCons ta (tCons tb tNil))) ρ (fun x => ∃ i : Int, x = .d (.int i) ∧ ∃ k : Nat, i = (k : Int) ∧ k < m) := (ev_take ha hb h1 h2).imp fun x ⟨k, e, hk⟩ => ⟨k, e, k, rfl, hk⟩
def S__law_pick : SpD := fun xs P => ∃ (ds : List PyData), xs = [.feed, .d (.list ds)] ∧ 1 ≤ ds.length ∧ ds.length ≤ 1000000 ∧ ∀ d ∈ ds, P (.d d)
abbrev N__law_pick : List Str := ["_law_feed_here", "_law_some"]
abbrev ps__law_pick : List Str := ["_law_feed_here", "_law_some"]
theorem sc__law_pick : FnScope N__law_pick ps__law_pick (defScope s_law_pick) := ⟨rfl, rfl, rfl, by decide +kernel, rfl, by decide +kernel, by decide +kernel⟩
theorem nd__law_pick : N__law_pick.Nodup := sc__law_pick.nd
theorem bd__law_pick : BindH "_law_pick" "_law_pick" ps__law_pick s_law_pick := fun _ _ _ _ _ _ us hl => match us, hl with | [_, _], _ => rfl
theorem ok__law_pick {P : Program} {w : World} {mg : Str → Option Value} {base : Heap} {g : Gb} (c : Txt g mg base) : FOk P w g.K mg base 3 "_law_pick" ps__law_pick (spOf g S__law_pick) := by
  have tx := txt_tx c
  refine FOk.mk' (h__law_pick c) sc__law_pick bd__law_pick (by intro xs Q h; unfold S__law_pick at h; (repeat' (rcases h with ⟨_, h⟩)); subst_vars; rfl) fun cdv A outer s H E hr => ⟨_, (pss_one (ps_ret (pe_ix (ixL g.K) (pv 1) (pe_callF (ok__law_take c) (hr.mono (by decide)) (pa_cons (pv 0) (pa_cons (pe_callB (cLen g.K) (by rfl) tx.len bt_len (pa_cons (pv 1) pa_nil)) pa_nil))) (fun _ _ => rfl)))), ?_⟩
  rintro xs Q ⟨ds, rfl, h1, h2, hQ⟩
  refine st_retP (evp_ixL (ds := ds) (Pi := fun i => ∃ k : Nat, i = (k : Int) ∧ k < ds.length) (ev_var rfl) rfl (ev_takeI (m := ds.length) (ev_var rfl) (ev_len (ev_var rfl) rfl) h1 (by omega)) fun i ⟨k, e, hk⟩ => ?_)
  subst e
  exact ⟨ds[k], by rw [atI_nat, List.getElem?_eq_getElem hk], rfl, hQ _ (List.getElem_mem hk)⟩
theorem ev_pick {g : Gb} {ta tb : TE} {ρ : Rho} {ds : List PyData} {P : Dx → Prop} (ha : Ev g ta ρ .feed) (hb : Ev g tb ρ (.d (.list ds))) (h1 : 1 ≤ ds.length) (h2 : ds.length ≤ 1000000) (hP : ∀ d ∈ ds, P (.d d)) : EvP g (tCall (spOf g S__law_pick) [] E0 (tCons ta (tCons tb tNil))) ρ P := ev_call (ea_cons ha (ea_cons hb ea_nil)) ⟨ds, rfl, h1, h2, hP⟩
end TB
set_option Elab.async false
set_option linter.all false
set_option autoImplicit false
set_option maxRecDepth 100000
set_option maxHeartbeats 4000000
namespace TB
open PySem PySem.Spec PyProof.Rows L2
theorem ev_neg {g : Gb} {ta : TE} {ρ : Rho} {i : Int} (ha : Ev g ta ρ (.d (.int i))) : Ev g (tUn (rU fun i => .int (-i)) ta) ρ (.d (.int (-i))) :=
  ev_un2 ha fun e σ F H v a E xa pa Q q => by
    subst pa
    exact ⟨i, Dq.int_eq xa, q _ F H _ (Gr.refl E.wl) (rx_d (Dq.int _)) rfl⟩
theorem lotIter_ok : ∀ h, h < 7 → ∀ n, n < 7 → (lotIter h n).1.length ≤ 1000 ∧ (lotIter h n).2.length ≤ 1000 ∧ (∀ l ∈ (lotIter h n).2, l.length ≤ 6) := by decide +kernel
theorem lotNext_len {h : Nat} (hh : h ≤ 6) (l : List Nat) : (lotNext h l).length ≤ 6 := by
  unfold lotNext
  rw [List.length_map]
  exact Nat.le_trans (List.length_filter_le _ _) (by rw [List.length_range]; exact hh)
theorem flatMap_len {h : Nat} (hh : h ≤ 6) (ls : List (List Nat)) : (ls.flatMap (lotNext h)).length ≤ 6 * ls.length := by
  induction ls with
  | nil => exact Nat.zero_le _
  | cons l ls ih =>
    rw [List.flatMap_cons, List.length_append, List.length_cons]
    have := lotNext_len hh l
    omega
def S__law_lots : SpD := fun xs P => ∃ (h : Nat), xs = [.d (.int (h : Int))] ∧ h ≤ 6 ∧ P (.d (lotsD (lotsL h)))
def lastD (l : List Nat) : PyData := match l.getLast? with
  | some u => .int (u : Int)
  | none => .none
theorem natsL_last {l : List Nat} {u : Nat} (h : l.getLast? = some u) : atI (natsL l) (-1) = some (.int (u : Int)) := by
  have hl : l.length ≠ 0 := fun z => by
    rw [List.length_eq_zero_iff.mp z] at h
    cases h
  rw [List.getLast?_eq_getElem?] at h
  unfold natsL atI ixN
  rw [if_neg (by decide), List.length_map, if_pos (by omega)]
  show (List.map _ l)[_]? = _
  rw [List.getElem?_map]
  have e1 : (((-1 : Int) + (l.length : Int)).toNat) = l.length - 1 := by omega
  rw [e1, h]
  rfl
abbrev N__law_lots : List Str := ["_law_many", "_law_found", "_law_last", "_law_size", "_law_new", "_law_lot_here", "_law_house"]
abbrev ps__law_lots : List Str := ["_law_many"]
theorem sc__law_lots : FnScope N__law_lots ps__law_lots (defScope s_law_lots) := ⟨rfl, rfl, rfl, by decide +kernel, rfl, by decide +kernel, by decide +kernel⟩
theorem nd__law_lots : N__law_lots.Nodup := sc__law_lots.nd
theorem bd__law_lots : BindH "_law_lots" "_law_lots" ps__law_lots s_law_lots := fun _ _ _ _ _ _ us hl => match us, hl with | [_], _ => rfl
theorem ok__law_lots {P : Program} {w : World} {mg : Str → Option Value} {base : Heap} {g : Gb} (c : Txt g mg base) : FOk P w g.K mg base 1 "_law_lots" ps__law_lots (spOf g S__law_lots) := by
  have tx := txt_tx c
  refine FOk.mk' (h__law_lots c) sc__law_lots bd__law_lots (by intro xs Q h; unfold S__law_lots at h; (repeat' (rcases h with ⟨_, h⟩)); subst_vars; rfl) fun cdv A outer s H E hr => ⟨_, (pss_cons (ps_par (i := 1) (j := 2) rfl nd__law_lots rfl rfl (by decide) rfl rfl (pa_cons (pe_lst pa_nil) (pa_cons (pe_lst (pa_cons (pe_tup pa_nil) pa_nil)) pa_nil)) (by rfl))
    (pss_cons (ps_for PassesOwn.never rfl (pi_range1 rfl tx.range (pa_cons (pv 0) pa_nil)) (pg_name (i := 3) nd__law_lots rfl (Or.inl rfl)) (pss_cons (ps_set (i := 4) nd__law_lots rfl (Or.inl rfl) (pe_lst pa_nil))
    (pss_cons (ps_for PassesOwn.never rfl (piL g.K (pv 2)) (pg_name (i := 5) nd__law_lots rfl (Or.inr rfl)) (pss_one (ps_set (i := 4) nd__law_lots rfl (Or.inl rfl) (pe_op op_cat (pv 4) (pe_lc rfl nd__law_lots (pi_range1 rfl tx.range (pa_cons (pv 0) pa_nil)) (blkOk_by (own := [("_law_house", 6)]) (N := N__law_lots) (sc := defScope s_law_lots) (by decide +kernel)) (fun _ _ _ _ _ => (pg_name (i := 6) nd__law_lots rfl (Or.inl rfl))) (fun _ _ _ _ _ => (pts_one (PW.pt (pw_or (pt_cmpR (opEqD g.K hr.units) (pv 5) (pe_tup pa_nil) (nomark _)) (pw_or1 (pt_cmpR op_gt (pv 6) (pe_ix (ixT g.K) (pv 5) (pe_un un_neg pe_int) (fun _ _ => rfl)) (nomark _))))))) (fun _ _ _ _ _ => (pe_op (opCatT g.K) (pv 5) (pe_tup (pa_cons (pv 6) pa_nil)))))))))
    (pss_one (ps_par (i := 1) (j := 2) rfl nd__law_lots rfl rfl (by decide) rfl rfl (pa_cons (pe_op op_cat (pv 1) (pv 4)) (pa_cons (pv 4) pa_nil)) (by rfl))))))
    (pss_one (ps_ret (pv 1))))), ?_⟩
  rintro xs Q ⟨h, rfl, hh, hQ⟩
  refine sq_par (a := .d (.list [])) (b := .d (lotsD [[]])) (ea_cons (ev_lst ed_nil) (ea_cons (ev_lst (ds := [.tuple []]) (ed_cons (ev_tup (ds := []) ed_nil (by simp)) ed_nil) (by simp)) ea_nil)) ?_
  refine st_seq (M := fun ρ => ∃ a b c d e, ρ = [some (.d (.int (h : Int))), some (.d (lotsD (lotsL h))), a, b, c, d, e]) (st_for (it_rangeN (n := h) (ev_var rfl) (by omega)) (fun _ i ρ => ∃ b c d e, ρ = [some (.d (.int (h : Int))), some (.d (lotsD (lotIter h i).1)), some (.d (lotsD (lotIter h i).2)), b, c, d, e]) ?_ ?_ ?_) ?_
  · rintro ds rfl
    exact ⟨none, none, none, none, rfl⟩
  · rintro ds i d ρ rfl hd ⟨b, c1, d1, e, rfl⟩
    obtain ⟨rfl, hi⟩ := intsTo_get hd
    obtain ⟨k1, k2, k3⟩ := lotIter_ok h (by omega) i (by omega)
    refine ⟨_, _, tg_d, ?_⟩
    refine sq_set (x := .d (lotsD [])) (ev_lst ed_nil) ?_
    refine st_seq (M := fun ρ => ∃ b d e, ρ = [some (.d (.int (h : Int))), some (.d (lotsD (lotIter h i).1)), some (.d (lotsD (lotIter h i).2)), b, some (.d (lotsD ((lotIter h i).2.flatMap (lotNext h)))), d, e]) (st_for (it_list (ds := (lotIter h i).2.map tupN) (ev_var rfl)) (fun _ j ρ => ∃ b d e, ρ = [some (.d (.int (h : Int))), some (.d (lotsD (lotIter h i).1)), some (.d (lotsD (lotIter h i).2)), b, some (.d (lotsD (((lotIter h i).2.take j).flatMap (lotNext h)))), d, e]) ?_ ?_ ?_) ?_
    · rintro ds rfl
      exact ⟨some (.d (.int (i : Int))), d1, e, rfl⟩
    · rintro ds j d ρ rfl hd2 ⟨b2, d2, e2, rfl⟩
      rw [List.getElem?_map] at hd2
      cases hs : (lotIter h i).2[j]? with
      | none => rw [hs] at hd2; cases hd2
      | some l =>
        rw [hs] at hd2
        cases hd2
        have hl6 := k3 l (List.mem_of_getElem? hs)
        refine ⟨_, _, tg_d, ?_⟩
        refine st_set (x := .d (lotsD (((lotIter h i).2.take (j + 1)).flatMap (lotNext h)))) ((ev_cat (ds := (((lotIter h i).2.take j).flatMap (lotNext h)).map tupN) (es := (lotNext h l).map tupN) (ev_var rfl) ((ev_lc (l := List.range h) (enc := fun i : Nat => PyData.int (i : Int)) (p := fun v => decide (l = []) || (match l.getLast? with | some u => decide (u < v) | none => true)) (f := fun v : Nat => tupN (l ++ [v])) (it_rangeN (ev_var rfl) (by omega)) (by rw [List.length_range]; omega) fun v hv => ⟨_, _, tg_d, by decide, eb_or ((eb_test (ev_eqD (ev_var rfl) (ev_tup ed_nil) (pl_tupN l).sh rfl)).is (by show PyData.eqv (.tuple (natsL l)) (.tuple []) = _; rw [eqv_nilT]; unfold natsL; simp)) fun hne => ?_, fun _ => ?_⟩).is (y := .d (.list ((lotNext h l).map tupN))) ?_) rfl rfl ?_).is ?_) rfl ⟨b2, some (.d (tupN l)), e2, rfl⟩
        · cases hg : l.getLast? with
          | none =>
            rw [List.getLast?_eq_none_iff] at hg
            rw [hg] at hne
            cases hne
          | some u => exact (eb_test (ev_gt (ev_var rfl) (ev_ixT (ds := natsL l) (ev_var rfl) (ev_neg ev_int) (natsL_last hg)))).is (by congr 1; simp only [Int.ofNat_lt])
        · exact (ev_catT (ds := natsL l) (es := [.int (v : Int)]) (ev_var rfl) (ev_tup (ds := [.int (v : Int)]) (ea_cons (ev_var rfl) ea_nil) (by simp)) (by rw [natsL_length]; simp; omega)).is (by show _ = Dx.d (.tuple (natsL (l ++ [v]))); unfold natsL; rw [List.map_append]; rfl)
        · congr 2
          unfold lotNext
          rw [List.map_map]
          rfl
        · rw [List.length_map, List.length_map]
          have h1 := flatMap_len hh ((lotIter h i).2.take j)
          have h2 := lotNext_len hh l
          have h3 : ((lotIter h i).2.take j).length ≤ (lotIter h i).2.length := by rw [List.length_take]; omega
          omega
        · unfold lotsD
          rw [List.take_add_one, hs, Option.toList_some, List.flatMap_append, List.flatMap_singleton, List.map_append]
    · rintro ds ρ rfl ⟨b2, d2, e2, rfl⟩
      rw [List.length_map, List.take_length]
      exact ⟨b2, d2, e2, rfl⟩
    · rintro ρ ⟨b2, d2, e2, rfl⟩
      refine st_par (a := .d (lotsD (lotIter h (i + 1)).1)) (b := .d (lotsD (lotIter h (i + 1)).2)) (ea_cons ((ev_cat (ds := (lotIter h i).1.map tupN) (es := ((lotIter h i).2.flatMap (lotNext h)).map tupN) (ev_var rfl) (ev_var rfl) rfl rfl ?_).is (by unfold lotsD; rw [← List.map_append]; rfl)) (ea_cons (ev_var rfl) ea_nil)) rfl rfl ⟨b2, some (.d (lotsD ((lotIter h i).2.flatMap (lotNext h)))), d2, e2, rfl⟩
      rw [List.length_map, List.length_map]
      have := flatMap_len hh (lotIter h i).2
      omega
  · rintro ds ρ rfl ⟨b, c1, d1, e, rfl⟩
    have : (intsTo h).length = h := by unfold intsTo; rw [List.length_map, List.length_range]
    rw [this]
    exact ⟨_, _, _, _, _, rfl⟩
  · rintro ρ ⟨a, b, c1, d, e, rfl⟩
    exact st_ret (ev_var rfl) hQ
theorem llots_call {g : Gb} {te : TE} {ρ : Rho} {h : Nat} (ha : Ev g te ρ (.d (.int (h : Int)))) (hh : h ≤ 6) : Ev g (tCall (spOf g S__law_lots) [] E0 (tCons te tNil)) ρ (.d (lotsD (lotsL h))) := ev_call (ea_cons ha ea_nil) ⟨h, rfl, hh, rfl⟩
/-! ### needs -/
def needZ (ms : List Msg) (hs : List (List Nat)) (l : List Nat) (n : Nat) : Int := (((List.range n).filter fun i => !meetB l (md ms i).1 && meetB l (hs.getD i [])).map fun i => (md ms i).2).sum
theorem needZ_succ (ms : List Msg) (hs : List (List Nat)) (l : List Nat) (n : Nat) : needZ ms hs l (n + 1) = needZ ms hs l n + (if (!meetB l (md ms n).1 && meetB l (hs.getD n [])) = true then (md ms n).2 else 0) := by
  unfold needZ
  rw [List.range_succ, List.filter_append, List.map_append, List.sum_append, List.filter_cons, List.filter_nil]
  congr 1
  cases (!meetB l (md ms n).1 && meetB l (hs.getD n [])) <;> simp
def S__law_need : SpD := fun xs P => ∃ (ms : List Msg) (hs : List (List Nat)) (l : List Nat), xs = [.d (msgsD ms), .d (lotsD hs), .d (tupN l), .d (.bool false)] ∧ hs.length = ms.length ∧ l.length ≤ 1000 ∧ ms.length ≤ 1000 ∧ P (.d (.int (needZ ms hs l ms.length)))
abbrev N__law_need : List Str := ["_law_messages", "_law_heards_here", "_law_lot_here", "_law_is_whole", "_law_found", "_law_number", "_law_knowing", "_law_pieces"]
abbrev ps__law_need : List Str := ["_law_messages", "_law_heards_here", "_law_lot_here", "_law_is_whole"]
theorem sc__law_need : FnScope N__law_need ps__law_need (defScope s_law_need) := ⟨rfl, rfl, rfl, by decide +kernel, rfl, by decide +kernel, by decide +kernel⟩
theorem nd__law_need : N__law_need.Nodup := sc__law_need.nd
theorem bd__law_need : BindH "_law_need" "_law_need" ps__law_need s_law_need := fun _ _ _ _ _ _ us hl => match us, hl with | [_, _, _, _], _ => rfl
theorem ok__law_need {P : Program} {w : World} {mg : Str → Option Value} {base : Heap} {g : Gb} (c : Txt g mg base) : FOk P w g.K mg base 2 "_law_need" ps__law_need (spOf g S__law_need) := by
  have tx := txt_tx c
  refine FOk.mk' (h__law_need c) sc__law_need bd__law_need (by intro xs Q h; unfold S__law_need at h; (repeat' (rcases h with ⟨_, h⟩)); subst_vars; rfl) fun cdv A outer s H E hr => ⟨_, (pss_cons (ps_set (i := 4) nd__law_need rfl (Or.inl rfl) pe_int)
    (pss_cons (ps_for PassesOwn.never rfl (piEnum g.K tx.enumerate (pa_cons (pv 0) pa_nil)) (pgT g.K 2 (pgs_cons (pg_name (i := 5) nd__law_need rfl (Or.inl rfl)) (pgs_cons (pgT g.K 2 (pgs_cons (pg_name (i := 6) nd__law_need rfl (Or.inl rfl)) (pgs_cons (pg_name (i := 7) nd__law_need rfl (Or.inl rfl)) pgs_nil))) pgs_nil))) (pss_one (ps_if (PW.pt (pw_and (pt_not (pt_val (pe_callF (ok__law_meet c) (hr.mono (by decide)) (pa_cons (pv 2) (pa_cons (pv 6) pa_nil))))) (pw_and1 (PW.pt (pw_or (pt_val (pv 3)) (pw_or1 (pt_val (pe_callF (ok__law_meet c) (hr.mono (by decide)) (pa_cons (pv 2) (pa_cons (pe_ix (ixL g.K) (pv 1) (pv 5) (fun _ _ => rfl)) pa_nil)))))))))) (pss_one (ps_set (i := 4) nd__law_need rfl (Or.inl rfl) (pe_op op_add (pv 4) (pv 7)))) pss_nil)))
    (pss_one (ps_ret (pv 4))))), ?_⟩
  rintro xs Q ⟨ms, hs, l, rfl, hl, hll, hm, hQ⟩
  refine sq_set (x := .d (.int (needZ ms hs l 0))) ev_int ?_
  refine st_seq (M := fun ρ => ∃ a b d, ρ = [some (.d (msgsD ms)), some (.d (lotsD hs)), some (.d (tupN l)), some (.d (.bool false)), some (.d (.int (needZ ms hs l ms.length))), a, b, d]) (st_for (it_enumR (l := ms) (enc := msgD) ([], 0) (ev_var rfl)) (fun _ i ρ => ∃ a b d, ρ = [some (.d (msgsD ms)), some (.d (lotsD hs)), some (.d (tupN l)), some (.d (.bool false)), some (.d (.int (needZ ms hs l i))), a, b, d]) ?_ ?_ ?_) ?_
  · rintro ds rfl
    exact ⟨none, none, none, rfl⟩
  · rintro ds i d ρ rfl hd ⟨a, b, e, rfl⟩
    obtain ⟨hi, rfl⟩ := range_get hd
    have hih : (hs.map tupN)[i]? = some (tupN (hs.getD i [])) := by
      rw [List.getElem?_map, List.getD_eq_getElem?_getD, List.getElem?_eq_getElem (by omega)]
      rfl
    refine ⟨_, _, tg_tup (tgs_cons tg_d (tgs_cons (tg_tup (ds := [tupN (md ms i).1, .int (md ms i).2]) (tgs_cons tg_d (tgs_cons tg_d tgs_nil)) rfl) tgs_nil)) rfl, ?_⟩
    refine st_ifB (b := !meetB l (md ms i).1 && (false || meetB l (hs.getD i []))) (eb_and (eb_not (eb_test (lmeet_call (d := tupN (md ms i).1) (ev_var rfl) (ev_var rfl) rfl hll))) fun _ => eb_or (eb_test (ev_var rfl)) fun _ => eb_test (lmeet_call (d := tupN (hs.getD i [])) (ev_var rfl) (ev_ixLn (ds := hs.map tupN) (ev_var rfl) (ev_var rfl) rfl hih) rfl hll)) (fun hb => ?_) fun hb => ?_
    · rw [Bool.false_or] at hb
      refine st_set (x := .d (.int (needZ ms hs l (i + 1)))) ((ev_add (ev_var rfl) (ev_var rfl)).is (by rw [needZ_succ, if_pos hb])) rfl ⟨some (.d (.int (i : Int))), some (.d (tupN (md ms i).1)), some (.d (.int (md ms i).2)), rfl⟩
    · rw [Bool.false_or] at hb
      refine st_nx ⟨some (.d (.int (i : Int))), some (.d (tupN (md ms i).1)), some (.d (.int (md ms i).2)), ?_⟩
      rw [needZ_succ, if_neg (by rw [hb]; exact Bool.false_ne_true), Int.add_zero]
      rfl
  · rintro ds ρ rfl ⟨a, b, e, rfl⟩
    rw [List.length_map, List.length_range]
    exact ⟨a, b, e, rfl⟩
  · rintro ρ ⟨a, b, e, rfl⟩
    exact st_ret (ev_var rfl) hQ
theorem needZ_N (rs : List Road) (ms : List Msg) (l : List Nat) : needZ ms (ms.map fun m => heardL rs m.1) l ms.length = needN rs ms l := by
  unfold needZ needN
  have e : ∀ i ∈ List.range ms.length, (ms.map fun m => heardL rs m.1).getD i [] = heardL rs (md ms i).1 := fun i hi => by
    rw [List.getD_eq_getElem?_getD, List.getElem?_map, md_get (List.mem_range.mp hi)]
    rfl
  have e2 : ms = (List.range ms.length).map (md ms) := by
    refine List.ext_getElem? fun i => ?_
    rw [List.getElem?_map]
    by_cases hi : i < ms.length
    · rw [List.getElem?_range hi, md_get hi]
      rfl
    · rw [List.getElem?_eq_none (by omega), List.getElem?_eq_none (by rw [List.length_range]; omega)]
      rfl
  conv => rhs; rw [e2, List.filter_map, List.map_map]
  congr 1
  refine congrArg _ (List.filter_congr fun i hi => ?_)
  show (!meetB l (md ms i).1 && meetB l _) = (meetB l (heardL rs (md ms i).1) && !meetB l (md ms i).1)
  rw [e i hi, Bool.and_comm]
def S__law_heards : SpD := fun xs P => ∃ (h : Nat) (rs : List Road) (ms : List Msg), xs = [.d (rdsD rs), .d (msgsD ms)] ∧ NewsOk h rs ms ∧ P (.d (lotsD (ms.map fun m => heardL rs m.1)))
abbrev N__law_heards : List Str := ["_law_roads", "_law_messages", "_law_knowing", "_law_pieces"]
abbrev ps__law_heards : List Str := ["_law_roads", "_law_messages"]
theorem sc__law_heards : FnScope N__law_heards ps__law_heards (defScope s_law_heards) := ⟨rfl, rfl, rfl, by decide +kernel, rfl, by decide +kernel, by decide +kernel⟩
theorem nd__law_heards : N__law_heards.Nodup := sc__law_heards.nd
theorem bd__law_heards : BindH "_law_heards" "_law_heards" ps__law_heards s_law_heards := fun _ _ _ _ _ _ us hl => match us, hl with | [_, _], _ => rfl
theorem ok__law_heards {P : Program} {w : World} {mg : Str → Option Value} {base : Heap} {g : Gb} (c : Txt g mg base) : FOk P w g.K mg base 2 "_law_heards" ps__law_heards (spOf g S__law_heards) := by
  have tx := txt_tx c
  refine FOk.mk' (h__law_heards c) sc__law_heards bd__law_heards (by intro xs Q h; unfold S__law_heards at h; (repeat' (rcases h with ⟨_, h⟩)); subst_vars; rfl) fun cdv A outer s H E hr => ⟨_, (pss_one (ps_ret (pe_lc rfl nd__law_heards (piL g.K (pv 1)) (blkOk_by (own := [("_law_knowing", 2), ("_law_pieces", 3)]) (N := N__law_heards) (sc := defScope s_law_heards) (by decide +kernel)) (fun _ _ _ _ _ => (pgT g.K 2 (pgs_cons (pg_name (i := 2) nd__law_heards rfl (Or.inl rfl)) (pgs_cons (pg_name (i := 3) nd__law_heards rfl (Or.inl rfl)) pgs_nil)))) (fun _ _ _ _ _ => pts_nil) (fun _ _ _ _ _ => (pe_callF (ok__law_led c) (hr.mono (by decide)) (pa_cons (pv 0) (pa_cons (pv 2) pa_nil))))))), ?_⟩
  rintro xs Q ⟨h, rs, ms, rfl, ok, hQ⟩
  have hh := ok.net.h6
  have hm := ok.few
  have hrl := ok.net.many
  refine st_ret ((ev_lcA (l := ms) (enc := msgD) (f := fun m : Msg => tupN (heardL rs m.1)) (it_list (ev_var rfl)) (by omega) fun m hmm => ⟨_, _, tg_tup (tgs_cons tg_d (tgs_cons tg_d tgs_nil)) rfl, by decide, lled_call (d := tupN m.1) (ev_var rfl) (ev_var rfl) rfl (fun r hr => by have := (ok.net.road r hr).2.1; omega) (fun v hv => by have := (ok.msg m hmm).1.2.2 v hv; omega) (by omega) (by have := (ok.msg m hmm).1.len hh; omega)⟩).is (y := .d (lotsD (ms.map fun m => heardL rs m.1))) (by unfold lotsD; rw [List.map_map]; rfl)) hQ
theorem lheards_call {g : Gb} {ta tb : TE} {ρ : Rho} {h : Nat} {rs : List Road} {ms : List Msg} (ha : Ev g ta ρ (.d (rdsD rs))) (hb : Ev g tb ρ (.d (msgsD ms))) (ok : NewsOk h rs ms) : Ev g (tCall (spOf g S__law_heards) [] E0 (tCons ta (tCons tb tNil))) ρ (.d (lotsD (ms.map fun m => heardL rs m.1))) := ev_call (ea_cons ha (ea_cons hb ea_nil)) ⟨h, rs, ms, rfl, ok, rfl⟩
def rowsL (h : Nat) (f : List Nat → Int) : PyData := .list ((lotsL h).map fun l => PyData.tuple [tupN l, .int (f l)])
def S__law_rows : SpD := fun xs P => ∃ (h : Nat) (rs : List Road) (ms : List Msg), xs = [.d (.int (h : Int)), .d (rdsD rs), .d (msgsD ms), .d (.bool false)] ∧ NewsOk h rs ms ∧ P (.d (rowsL h fun l => flowL rs l - needN rs ms l))
abbrev N__law_rows : List Str := ["_law_many", "_law_roads", "_law_messages", "_law_is_whole", "_law_heards_here", "_law_found", "_law_lot_here"]
abbrev ps__law_rows : List Str := ["_law_many", "_law_roads", "_law_messages", "_law_is_whole"]
theorem sc__law_rows : FnScope N__law_rows ps__law_rows (defScope s_law_rows) := ⟨rfl, rfl, rfl, by decide +kernel, rfl, by decide +kernel, by decide +kernel⟩
theorem nd__law_rows : N__law_rows.Nodup := sc__law_rows.nd
theorem bd__law_rows : BindH "_law_rows" "_law_rows" ps__law_rows s_law_rows := fun _ _ _ _ _ _ us hl => match us, hl with | [_, _, _, _], _ => rfl
theorem ok__law_rows {P : Program} {w : World} {mg : Str → Option Value} {base : Heap} {g : Gb} (c : Txt g mg base) : FOk P w g.K mg base 3 "_law_rows" ps__law_rows (spOf g S__law_rows) := by
  have tx := txt_tx c
  refine FOk.mk' (h__law_rows c) sc__law_rows bd__law_rows (by intro xs Q h; unfold S__law_rows at h; (repeat' (rcases h with ⟨_, h⟩)); subst_vars; rfl) fun cdv A outer s H E hr => ⟨_, (pss_cons (ps_par (i := 4) (j := 5) rfl nd__law_rows rfl rfl (by decide) rfl rfl (pa_cons (pe_callF (ok__law_heards c) (hr.mono (by decide)) (pa_cons (pv 1) (pa_cons (pv 2) pa_nil))) (pa_cons (pe_lst pa_nil) pa_nil)) (by rfl))
    (pss_cons (ps_for PassesOwn.never rfl (piL g.K (pe_callF (ok__law_lots c) (hr.mono (by decide)) (pa_cons (pv 0) pa_nil))) (pg_name (i := 6) nd__law_rows rfl (Or.inl rfl)) (pss_one (ps_expr (pe_bm PySem.F.plainAttrs_list PySem.F.slot_list_append PySem.F.type_list_append mt_append (pv 5) (pa_cons (pe_tup (pa_cons (pv 6) (pa_cons (pe_op op_sub (pe_callF (ok__law_flow c) (hr.mono (by decide)) (pa_cons (pv 1) (pa_cons (pv 6) pa_nil))) (pe_callF (ok__law_need c) (hr.mono (by decide)) (pa_cons (pv 2) (pa_cons (pv 4) (pa_cons (pv 6) (pa_cons (pv 3) pa_nil)))))) pa_nil))) pa_nil)))))
    (pss_one (ps_ret (pv 5))))), ?_⟩
  rintro xs Q ⟨h, rs, ms, rfl, ok, hQ⟩
  have hh := ok.net.h6
  have hm := ok.few
  have hrl := ok.net.many
  have hll := lotsL_len h (by omega)
  refine sq_parL (a := .d (lotsD (ms.map fun m => heardL rs m.1))) (b := .own []) (el_d (lheards_call (ev_var rfl) (ev_var rfl) ok) (el_o ew_nil el_nil)) ?_
  refine st_seq (M := fun ρ => ∃ a, ρ = [some (.d (.int (h : Int))), some (.d (rdsD rs)), some (.d (msgsD ms)), some (.d (.bool false)), some (.d (lotsD (ms.map fun m => heardL rs m.1))), some (.own ((lotsL h).map fun l => PyData.tuple [tupN l, .int (flowL rs l - needN rs ms l)])), a]) (st_for (it_list (ds := (lotsL h).map tupN) (llots_call (ev_var rfl) hh)) (fun _ i ρ => ∃ a, ρ = [some (.d (.int (h : Int))), some (.d (rdsD rs)), some (.d (msgsD ms)), some (.d (.bool false)), some (.d (lotsD (ms.map fun m => heardL rs m.1))), some (.own (((lotsL h).take i).map fun l => PyData.tuple [tupN l, .int (flowL rs l - needN rs ms l)])), a]) ?_ ?_ ?_) ?_
  · rintro ds rfl
    exact ⟨none, rfl⟩
  · rintro ds i d ρ rfl hd ⟨a, rfl⟩
    rw [List.getElem?_map] at hd
    cases hs : (lotsL h)[i]? with
    | none => rw [hs] at hd; cases hd
    | some l =>
      rw [hs] at hd
      cases hd
      have hlot : LotOk h l := lotsL_ok h (by omega) l (List.mem_of_getElem? hs)
      have hl6 := hlot.len hh
      refine ⟨_, _, tg_d, ?_⟩
      refine st_app rfl (ev_tup (ds := [tupN l, .int (flowL rs l - needN rs ms l)]) (ea_cons (ev_var rfl) (ea_cons (ev_sub (ev_call (P := fun y => y = .d (.int (flowL rs l))) (ea_cons (ev_var rfl) (ea_cons (ev_var rfl) ea_nil)) ⟨rs, l, rfl, by omega, rfl⟩) (ev_call (ea_cons (ev_var rfl) (ea_cons (ev_var rfl) (ea_cons (ev_var rfl) (ea_cons (ev_var rfl) ea_nil)))) ⟨ms, ms.map fun m => heardL rs m.1, l, rfl, by rw [List.length_map], by omega, by omega, by rw [needZ_N]⟩)) ea_nil)) (by simp)) ?_ ⟨some (.d (tupN l)), ?_⟩
      · rw [List.length_map, List.length_take]
        omega
      · rw [List.take_add_one, hs, Option.toList_some, List.map_append]
        rfl
  · rintro ds ρ rfl ⟨a, rfl⟩
    rw [List.length_map, List.take_length]
    exact ⟨a, rfl⟩
  · rintro ρ ⟨a, rfl⟩
    exact st_retOwn rfl hQ
/-! ### a lot from the feed -/
def S__law_lot : SpD := fun xs P => ∃ (h : Nat), xs = [.feed, .d (.int (h : Int))] ∧ 1 ≤ h ∧ h ≤ 6 ∧ ∀ l, LotOk h l → P (.d (tupN l))
theorem et_eqI {g : Gb} {ta tb : TE} {ρ : Rho} {Pa Pb : Int → Prop} (ha : EvP g ta ρ (fun x => ∃ i, x = .d (.int i) ∧ Pa i)) (hb : EvP g tb ρ (fun x => ∃ i, x = .d (.int i) ∧ Pb i)) : EvT g (tTest (tOp rEq ta tb)) ρ (fun _ => True) :=
  et_test (ev_op2 ha hb fun e σ F H v w a b E xa xb pa pb Q q => by
    obtain ⟨i, rfl, _⟩ := pa
    obtain ⟨j, rfl, _⟩ := pb
    rw [Dq.int_eq xa, Dq.int_eq xb]
    exact ⟨rfl, q _ F H _ (Gr.refl E.wl) (rx_d (Dq.bl _)) ⟨_, rfl, trivial⟩⟩)
theorem et_gtI {g : Gb} {ta tb : TE} {ρ : Rho} {Pa Pb : Int → Prop} (ha : EvP g ta ρ (fun x => ∃ i, x = .d (.int i) ∧ Pa i)) (hb : EvP g tb ρ (fun x => ∃ i, x = .d (.int i) ∧ Pb i)) : EvT g (tTest (tOp (rI0 fun i j => .bl (decide (j < i))) ta tb)) ρ (fun _ => True) :=
  et_test (evp_I0 (f := fun i j => .bool (decide (j < i))) ha hb fun i j _ _ => ⟨rfl, _, rfl, trivial⟩)
abbrev N__law_lot : List Str := ["_law_feed_here", "_law_many", "_law_found", "_law_house"]
abbrev ps__law_lot : List Str := ["_law_feed_here", "_law_many"]
theorem sc__law_lot : FnScope N__law_lot ps__law_lot (defScope s_law_lot) := ⟨rfl, rfl, rfl, by decide +kernel, rfl, by decide +kernel, by decide +kernel⟩
theorem nd__law_lot : N__law_lot.Nodup := sc__law_lot.nd
theorem bd__law_lot : BindH "_law_lot" "_law_lot" ps__law_lot s_law_lot := fun _ _ _ _ _ _ us hl => match us, hl with | [_, _], _ => rfl
theorem ok__law_lot {P : Program} {w : World} {mg : Str → Option Value} {base : Heap} {g : Gb} (c : Txt g mg base) : FOk P w g.K mg base 2 "_law_lot" ps__law_lot (spOf g S__law_lot) := by
  have tx := txt_tx c
  refine FOk.mk' (h__law_lot c) sc__law_lot bd__law_lot (by intro xs Q h; unfold S__law_lot at h; (repeat' (rcases h with ⟨_, h⟩)); subst_vars; rfl) fun cdv A outer s H E hr => ⟨_, (pss_cons (ps_setLc (i := 2) rfl nd__law_lot rfl rfl (sw_true rfl rfl rfl (by decide +kernel)) (pi_range1 rfl tx.range (pa_cons (pv 1) pa_nil)) (blkOk_by (own := [("_law_house", 3)]) (N := N__law_lot) (sc := defScope s_law_lot) (by decide +kernel)) (fun _ _ _ _ _ => (pg_name (i := 3) nd__law_lot rfl (Or.inl rfl))) (fun _ _ _ _ _ => (pts_one (pt_cmpR op_eq (pe_callF (ok__law_take c) (hr.mono (by decide)) (pa_cons (pv 0) (pa_cons pe_int pa_nil))) pe_int (nomark _)))) (fun _ _ _ _ _ => (pv 3)))
    (pss_cons (ps_if (PW.pt (pw_or (pt_cmpR (opEqD g.K hr.units) (pv 2) (pe_lst pa_nil) (nomark _)) (pw_or1 (pt_cmpR op_eq (pe_callF (ok__law_take c) (hr.mono (by decide)) (pa_cons (pv 0) (pa_cons pe_int pa_nil))) pe_int (nomark _))))) (pss_one (ps_set (i := 2) nd__law_lot rfl (Or.inl rfl) (pe_lst (pa_cons (pe_callF (ok__law_take c) (hr.mono (by decide)) (pa_cons (pv 0) (pa_cons (pv 1) pa_nil))) pa_nil)))) pss_nil)
    (pss_one (ps_ret (pe_callTy (cTup g.K) (by rfl) tx.tuple bt_tuple (pa_cons (pv 2) pa_nil)))))), ?_⟩
  rintro xs Q ⟨h, rfl, h1, hh, hQ⟩
  refine sq_setP (P := fun x => ∃ l : List Nat, x = .d (.list (natsL l)) ∧ l.Pairwise (· < ·) ∧ ∀ v ∈ l, v < h) (evp_lc (PD := fun ds => ds = intsTo h) (it_rangeN (ev_var rfl) (by omega)) (fun ds i acc => ∃ l : List Nat, acc = natsL l ∧ l.Pairwise (· < ·) ∧ ∀ v ∈ l, v < i) (fun ds e => ?_) (fun ds i d acc e hd ii => ?_) fun ds acc e ii => ?_) (fun x ⟨l, e, _⟩ => by rw [e]; rfl) ?_
  · subst e
    refine ⟨?_, [], rfl, .nil, fun v hv => by cases hv⟩
    unfold intsTo
    rw [List.length_map, List.length_range]
    omega
  · subst e
    obtain ⟨rfl, hi⟩ := intsTo_get hd
    obtain ⟨l, rfl, p, lv⟩ := ii
    refine ⟨_, _, fun _ => True, tg_d, by decide, et_eqI (ev_takeI (m := 3) (ev_var rfl) (ev_n 3) (by decide) (by decide)) (ev_int (i := 0)).int, fun _ => (ev_var (x := .d (.int (i : Int))) rfl).imp fun x e => ⟨.int (i : Int), e, l ++ [i], ?_, ?_, ?_⟩, fun _ => ⟨l, rfl, p, fun v hv => Nat.lt_succ_of_lt (lv v hv)⟩⟩
    · unfold natsL
      rw [List.map_append]
      rfl
    · refine List.pairwise_append.mpr ⟨p, List.pairwise_singleton _ _, fun a ha b hb => ?_⟩
      rw [List.mem_singleton.mp hb]
      exact lv a ha
    · intro v hv
      rcases List.mem_append.mp hv with hv | hv
      · exact Nat.lt_succ_of_lt (lv v hv)
      · rw [List.mem_singleton.mp hv]
        exact Nat.lt_succ_self i
  · subst e
    obtain ⟨l, rfl, p, lv⟩ := ii
    refine ⟨l, rfl, p, fun v hv => ?_⟩
    have := lv v hv
    unfold intsTo at this
    rw [List.length_map, List.length_range] at this
    exact this
  rintro x ⟨l, rfl, p, lv⟩
  refine sq_if (P1 := fun b => b = true ∨ l ≠ []) (et_or (P1 := fun b => b = decide (l = [])) (P2 := fun _ => True) ((eb_test (ev_eqD (ev_var rfl) (ev_lst ed_nil) (pl_list (n := 0) (pl_nats l)).sh rfl)).imp fun b e => ?_) (fun _ => et_eqI (ev_takeI (m := 2) (ev_var rfl) (ev_n 2) (by decide) (by decide)) (ev_int (i := 0)).int) (fun _ => .inl rfl) fun b e _ => ?_) (fun _ => ?_) fun hb => ?_
  · rw [e]
    show PyData.eqv (.list (natsL l)) (.list []) = _
    rw [eqv_nil]
    unfold natsL
    simp
  · exact .inr (by simpa using e)
  · refine sq_setP (P := fun x => ∃ k : Nat, x = .d (.list [.int (k : Int)]) ∧ k < h) (evp_lst (PD := fun ds => ∃ k : Nat, ds = [.int (k : Int)] ∧ k < h) ((eap_cons (ev_take (m := h) (ev_var rfl) (ev_var rfl) h1 (by omega)) ea_nil).imp fun xs ⟨y, ys, e1, ⟨k, e2, hk⟩, e3⟩ => ⟨[.int (k : Int)], by rw [e1, e2, e3]; rfl, by simp, k, rfl, hk⟩) fun ds ⟨k, e, hk⟩ => ⟨k, by rw [e], hk⟩) (fun x ⟨k, e, _⟩ => by rw [e]; rfl) ?_
    rintro x ⟨k, rfl, hk⟩
    exact st_ret (ev_tupL (ds := natsL [k]) (ev_var rfl) rfl) (hQ [k] ⟨by simp, List.pairwise_singleton _ _, fun v hv => by rw [List.mem_singleton.mp hv]; exact hk⟩)
  · rcases hb with hb | hb
    · cases hb
    · exact sq_nx (st_ret (ev_tupL (ds := natsL l) (ev_var rfl) rfl) (hQ l ⟨hb, p, lv⟩))
end TB
set_option Elab.async false
set_option linter.all false
set_option autoImplicit false
set_option maxRecDepth 100000
set_option maxHeartbeats 4000000
namespace TB
open PySem PySem.Spec PyProof.Rows L2
section
variable {g : Gb} {ρ : Rho} {te ta tb : TE} {tg : TG} {wi : TI} {ts tu : TS} {po : Po} {PD : List PyData → Prop}
/-- an expression makes a new list of which something holds -/
def EvWP (g : Gb) (te : TE) (ρ : Rho) (PD : List PyData → Prop) : Prop := ∀ (e : En) (σ : St) (F H : Hp), Ew g e σ F H ρ → ∀ Q : VK, (∀ p vs ds F' H', Gr g e.lf F H F' H' → OwnAt g e F' H' p vs → H p = none → DqAll F' vs ds → PD ds → Q (.ref p) H') → te σ H Q
theorem ewp_lcA {vs : List Nat} {ds : List PyData} (hw : ItP g wi ρ (fun y => y = ds)) (hlen : ds.length ≤ 1000000) (I : Nat → List PyData → Prop) (h0 : I 0 [])
    (hs : ∀ (i : Nat) d acc, ds[i]? = some d → I i acc → ∃ js ρ1, TgP g tg (wipeR ρ vs) (.d d) js ρ1 ∧ (∀ j ∈ js, j ∈ vs) ∧ EvP g te ρ1 (fun x => ∃ d', x = .d d' ∧ I (i + 1) (acc ++ [d']))) : EvWP g (tLc wi tg tYes te vs) ρ (I ds.length) := fun e σ F H E Q q => hw e σ F H E _ fun J F1 H1 ds' r1 pd wd => by
  subst pd
  intro D hD
  obtain ⟨G, Y, W, hG, hY⟩ := wd
  have E1 := E.grow r1
  have r2 : Gr g e.lf F1 H1 F1 (upd H1 D (.lst [])) := Gr.newH E1.wl hD
  have F1D : F1 D = none := E1.wl.F_none hD
  have Dne : D ≠ g.T := E1.wl.T_ne hD
  have Dlf : e.lf ≠ some D := E1.wl.lf_ne hD
  refine lc_it W (fun i H' => ∃ F' accV acc, Gr g e.lf F1 H1 F' H' ∧ F' D = none ∧ H' D = some (.lst accV) ∧ DqAll F' accV acc ∧ acc.length = i ∧ I i acc) ⟨F1, [], [], r2, F1D, upd_same, .nil, rfl, h0⟩ (fun i H' hi p => ?_) (fun i x H' H3 hi p y => ?_) fun H' p => ?_
  · obtain ⟨F', accV, acc, r, f, hh, a, _⟩ := p
    exact hG F' H' r.ff r.wl.same
  · obtain ⟨F', accV, acc, r, fD, hh, a, al, ii⟩ := p
    have hli : ds'[i]? = some ds'[i] := List.getElem?_eq_getElem hi
    obtain ⟨F3, r3, dx⟩ := hY i F' H' x H3 ds'[i] r.wl r.ff hli y
    obtain ⟨js, ρ1, htg, hjs, hy⟩ := hs i ds'[i] acc hli ii
    have rA : Gr g e.lf F1 H1 F3 H3 := r.trans E1.wl r3
    have EA : Ew g e (wipe σ vs) F3 H3 (wipeR ρ vs) := (E1.grow rA).wipe vs
    refine htg e (wipe σ vs) F3 H3 x EA dx _ fun σ2 E2 l2 k2 => ⟨wipe_eq (l2.trans (wipe_length σ vs)) fun i hi => (k2 i fun z => hi (hjs i z)).trans (wipe_out hi), ?_⟩
    have hD3 : H3 D = some (.lst accV) := r3.hh D _ Dne Dlf hh
    have fD3 : F3 D = none := r3.nw D _ fD hh
    have a3 := a.mono r3.ff
    simp only [tYes, if_true]
    refine hy e σ2 F3 H3 E2 _ fun w F5 H5 x5 r5 rx5 p5 => ?_
    obtain ⟨d', rfl, i5⟩ := p5
    have hD5 : H5 D = some (.lst accV) := r5.hh D _ Dne Dlf hD3
    have fD5 : F5 D = none := r5.nw D _ fD3 hD3
    refine ⟨accV, hD5, ?_, F5, accV ++ [w], acc ++ [d'], ?_, fD5, upd_same, (a3.mono r5.ff).snoc rx5, by rw [List.length_append, al]; rfl, i5⟩
    · rw [a.length]
      exact Nat.lt_of_lt_of_le (show _ < 1000001 by omega) (by decide)
    · have r15 : Gr g e.lf F1 H1 F5 H5 := rA.trans E1.wl r5
      refine ⟨r15.ff, fun c o h1 h2 h3 => ?_, r15.wl.write hD5 fD5 Dlf, r15.nw⟩
      rw [upd_ne (ne_of_none h3 hD)]
      exact r15.hh c o h1 h2 h3
  · obtain ⟨F', accV, acc, r, f, hh, a, al, ii⟩ := p
    have h0 : H D = none := by
      cases q : H D with
      | none => rfl
      | some o =>
        have := r1.hh D o Dne Dlf q
        rw [hD] at this
        cases this
    exact q D accV acc F' H' (r1.step E r) ⟨f, E.h0 h0, Dne, Dlf, hh⟩ h0 a ii
theorem st_ownWP {i : Nat} (h : EvWP g te ρ PD) (k : ∀ ds, PD ds → po.nx (ρ.set i (some (.own ds)))) : StP g (tAsg te (gName i)) ρ po := fun e σ F H D E w => h e σ F H E _ fun p vs ds F1 H1 r o hp q pd =>
  w.nx _ F1 H1 _ r.ff ((E.grow r).setOwn o q fun j ys _ hj z => by
    obtain ⟨v, hv, l, us, e1, o2, _⟩ := E.bd j _ hj
    rw [e1] at hv
    rw [z] at hv
    cases hv
    have o3 := o2.h
    rw [hp] at o3
    cases o3) (k ds pd)
theorem ixN_natW {n j : Nat} (hj : j < n) : ixN n (j : Int) = some j := by
  unfold ixN
  rw [if_pos (by omega), if_pos (by omega), Int.toNat_natCast]
/-- x.append(x.pop(..)) -/
theorem st_rot {K : PySem.W.Frag} {i : Nat} {ds : List PyData} (hi : ρ[i]? = some (some (.own ds))) (h : EvP g ta ρ (fun x => ∃ k : Nat, x = .d (.int (k : Int)) ∧ k < ds.length)) (hz : ds.length ≤ 100000) (k : ∀ (j : Nat) d, ds[j]? = some d → po.nx (ρ.set i (some (.own (ds.eraseIdx j ++ [d]))))) :
    StP g (tDrop (tBM K "list" rAppend (tVar i) (tCons (tBM K "list" rPopAt (tVar i) (tCons ta tNil)) tNil))) ρ po := fun e σ F H D E w => by
  obtain ⟨v, hv, l, vs, e1, o, a⟩ := E.bd i _ hi
  subst e1
  refine ⟨.ref l, hv, .inl ⟨rfl, _, SqL.of o.h⟩, .ref l, hv, .inl ⟨rfl, _, SqL.of o.h⟩, h e σ F H E _ fun u F1 H1 x r1 rx p => ?_⟩
  obtain ⟨j, rfl, hj⟩ := p
  have hu : u = .int (j : Int) := Dq.int_eq rx
  subst hu
  have o1 := o.mono r1
  have a1 := a.mono r1.ff
  have hvl := a.length
  have hjv : vs[j]? = some vs[j] := List.getElem?_eq_getElem (by omega)
  have hjd : ds[j]? = some ds[j] := List.getElem?_eq_getElem hj
  have dj := a1.got hjv hjd
  refine ⟨l, vs, (j : Int), j, vs[j], rfl, rfl, o1.h, by omega, by omega, (ixN_seq (ixN_natW (by omega))).1, hjv, ?_⟩
  have E2 := (E.grow r1).write hi hv o1.h (a1.eraseIdx j)
  have hlt : i < ρ.length := (List.getElem?_eq_some_iff.mp hi).1
  have E3 := E2.write (i := i) (ds := ds.eraseIdx j) (by rw [List.getElem?_set_self hlt]) hv upd_same ((a1.eraseIdx j).snoc dj)
  rw [List.set_set] at E3
  refine ⟨l, vs.eraseIdx j, vs[j], rfl, rfl, upd_same, ?_, w.nx _ F1 _ _ r1.ff E3 (k j _ hjd)⟩
  have : (vs.eraseIdx j).length ≤ vs.length := by rw [List.length_eraseIdx]; split <;> omega
  exact Nat.lt_of_le_of_lt this (Nat.lt_of_lt_of_le (show vs.length < 1000001 by omega) (by decide))
end
def Menu (M : List Int) (n : Nat := 8) : Prop := 1 ≤ M.length ∧ M.length ≤ n ∧ ∀ x ∈ M, 0 ≤ x ∧ x ≤ 1000000000
def RdOk (h : Nat) (r : Road) : Prop := r.1 < h ∧ r.2.1 < h ∧ r.1 ≠ r.2.1 ∧ 0 ≤ r.2.2 ∧ r.2.2 ≤ 1000000000
theorem pick_menu {g : Gb} {ta tb : TE} {ρ : Rho} {M : List Int} (hM : Menu M) (ha : Ev g ta ρ .feed) (hb : Ev g tb ρ (.d (intL M))) : EvP g (tCall (spOf g S__law_pick) [] E0 (tCons ta (tCons tb tNil))) ρ (fun x => ∃ i : Int, x = .d (.int i) ∧ 0 ≤ i ∧ i ≤ 1000000000) :=
  ev_pick ha hb (by rw [List.length_map]; exact hM.1) (by rw [List.length_map]; have := hM.2.1; omega) fun d hd => by
    obtain ⟨i, hi, rfl⟩ := List.mem_map.mp hd
    exact ⟨i, rfl, hM.2.2 i hi⟩
theorem pick_menus {g : Gb} {ta tb : TE} {ρ : Rho} {L : List (List Int)} {n : Nat} (hL : ∀ M ∈ L, Menu M n) (h1 : 1 ≤ L.length) (h2 : L.length ≤ 1000) (ha : Ev g ta ρ .feed) (hb : Ev g tb ρ (.d (.list (L.map intL)))) : EvP g (tCall (spOf g S__law_pick) [] E0 (tCons ta (tCons tb tNil))) ρ (fun x => ∃ M, x = .d (intL M) ∧ Menu M n) :=
  ev_pick ha hb (by rw [List.length_map]; exact h1) (by rw [List.length_map]; omega) fun d hd => by
    obtain ⟨M, hM, rfl⟩ := List.mem_map.mp hd
    exact ⟨M, rfl, hL M hM⟩
theorem ev_ten {g : Gb} {ρ : Rho} (k : Int) (n : Nat) (hk : k = (n : Int)) (hn : n ≤ 100) : Ev g (tOp (rI CPow fun i j => .int (i ^ j.toNat)) (tC (.int 10)) (tC (.int k))) ρ (.d (.int (10 ^ n))) := (ev_pow ev_int ev_int ⟨by omega, by omega, by decide⟩).is (by rw [hk, Int.toNat_natCast])
theorem road_of {h s k : Nat} {w : Int} (hs : s < h) (hk : k < h - 1) (h0 : 0 ≤ w) (h1 : w ≤ 1000000000) : ∃ e : Nat, ((s : Int) + 1 + (k : Int)) % (h : Int) = (e : Int) ∧ RdOk h (s, e, w) := by
  refine ⟨(s + 1 + k) % h, by norm_cast, hs, Nat.mod_lt _ (by omega), ?_, h0, h1⟩
  show s ≠ (s + 1 + k) % h
  by_cases hc : s + 1 + k < h
  · rw [Nat.mod_eq_of_lt hc]
    omega
  · rw [Nat.mod_eq_sub_mod (by omega), Nat.mod_eq_of_lt (by omega)]
    omega
theorem mem_rot {α : Type} {l : List α} {j : Nat} {d x : α} (hd : l[j]? = some d) (h : x ∈ l.eraseIdx j ++ [d]) : x ∈ l := by
  rcases List.mem_append.mp h with h | h
  · exact List.mem_of_mem_eraseIdx h
  · rw [List.mem_singleton.mp h]
    exact List.mem_of_getElem? hd
theorem map_eraseIdx' {α β : Type} (f : α → β) : ∀ (l : List α) (j : Nat), (l.map f).eraseIdx j = (l.eraseIdx j).map f
  | [], _ => rfl
  | a :: l, 0 => rfl
  | a :: l, j + 1 => by
    rw [List.map_cons, List.eraseIdx_cons_succ, List.eraseIdx_cons_succ, List.map_cons, map_eraseIdx' f l j]
def S__law_net : SpD := fun xs P => xs = [.feed, .d (.int 6), .d (.int 12)] ∧ ∀ (h : Nat) (rs : List Road), NetOk h rs → P (.d (.list [.int (h : Int), rdsD rs]))
abbrev N__law_net : List Str := ["_law_feed_here", "_law_houses", "_law_most_roads", "_law_many", "_law_menu", "_law_drawn", "_law_found", "_law_house", "_law_turn", "_law_start"]
abbrev ps__law_net : List Str := ["_law_feed_here", "_law_houses", "_law_most_roads"]
theorem sc__law_net : FnScope N__law_net ps__law_net (defScope s_law_net) := ⟨rfl, rfl, rfl, by decide +kernel, rfl, by decide +kernel, by decide +kernel⟩
theorem nd__law_net : N__law_net.Nodup := sc__law_net.nd
theorem bd__law_net : BindH "_law_net" "_law_net" ps__law_net s_law_net := fun _ _ _ _ _ _ us hl => match us, hl with | [_, _, _], _ => rfl
theorem ok__law_net {P : Program} {w : World} {mg : Str → Option Value} {base : Heap} {g : Gb} (c : Txt g mg base) : FOk P w g.K mg base 4 "_law_net" ps__law_net (spOf g S__law_net) := by
  have tx := txt_tx c
  refine FOk.mk' (h__law_net c) sc__law_net bd__law_net (by intro xs Q h; unfold S__law_net at h; (repeat' (rcases h with ⟨_, h⟩)); subst_vars; rfl) fun cdv A outer s H E hr => ⟨_, (pss_cons (ps_set (i := 3) nd__law_net rfl (Or.inl rfl) (pe_op op_add pe_int (pe_callF (ok__law_take c) (hr.mono (by decide)) (pa_cons (pv 0) (pa_cons (pv 1) pa_nil)))))
    (pss_cons (ps_set (i := 4) nd__law_net rfl (Or.inr rfl) (pe_callF (ok__law_pick c) (hr.mono (by decide)) (pa_cons (pv 0) (pa_cons (pe_lst (pa_cons (pe_lst (pa_cons pe_int (pa_cons pe_int (pa_cons pe_int (pa_cons pe_int (pa_cons pe_int pa_nil)))))) (pa_cons (pe_lst (pa_cons pe_int (pa_cons pe_int (pa_cons pe_int pa_nil)))) (pa_cons (pe_lst (pa_cons pe_int (pa_cons pe_int (pa_cons pe_int (pa_cons pe_int (pa_cons pe_int (pa_cons pe_int (pa_cons pe_int pa_nil)))))))) (pa_cons (pe_lst (pa_cons (pe_op op_pow pe_int pe_int) (pa_cons (pe_op op_sub (pe_op op_pow pe_int pe_int) pe_int) (pa_cons (pe_op op_mul pe_int (pe_op op_pow pe_int pe_int)) (pa_cons pe_int pa_nil))))) pa_nil))))) pa_nil))))
    (pss_cons (ps_set (i := 5) nd__law_net rfl (Or.inl rfl) (pe_lst (pa_cons (pe_callF (ok__law_take c) (hr.mono (by decide)) (pa_cons (pv 0) (pa_cons (pe_op op_add (pe_op op_pow pe_int pe_int) pe_int) pa_nil))) (pa_cons (pe_op op_add pe_int (pe_callF (ok__law_take c) (hr.mono (by decide)) (pa_cons (pv 0) (pa_cons pe_int pa_nil)))) (pa_cons (pe_op op_add pe_int (pe_callF (ok__law_take c) (hr.mono (by decide)) (pa_cons (pv 0) (pa_cons (pe_op op_pow pe_int pe_int) pa_nil)))) pa_nil)))))
    (pss_cons (ps_set (i := 4) nd__law_net rfl (Or.inr rfl) (pe_callF (ok__law_pick c) (hr.mono (by decide)) (pa_cons (pv 0) (pa_cons (pe_lst (pa_cons (pv 4) (pa_cons (pv 4) (pa_cons (pe_op op_cat (pv 4) (pe_lst (pa_cons pe_int pa_nil))) (pa_cons (pe_lst (pa_cons pe_int (pa_cons pe_int (pa_cons pe_int (pa_cons (pe_op op_pow pe_int pe_int) pa_nil))))) (pa_cons (pv 5) pa_nil)))))) pa_nil))))
    (pss_cons (ps_set (i := 6) nd__law_net rfl (Or.inl rfl) (pe_lst pa_nil))
    (pss_cons (ps_if (PW.pt (pw_and (pt_cmpR op_gt (pv 3) pe_int (nomark _)) (pw_and1 (pt_cmpR op_gt (pe_callF (ok__law_take c) (hr.mono (by decide)) (pa_cons (pv 0) (pa_cons pe_int pa_nil))) pe_int (nomark _))))) (pss_one (ps_setLc (i := 6) rfl nd__law_net rfl rfl (sw_true rfl rfl rfl (by decide +kernel)) (pi_range2 rfl tx.range (pa_cons pe_int (pa_cons (pv 3) pa_nil))) (blkOk_by (own := [("_law_house", 7)]) (N := N__law_net) (sc := defScope s_law_net) (by decide +kernel)) (fun _ _ _ _ _ => (pg_name (i := 7) nd__law_net rfl (Or.inl rfl))) (fun _ _ _ _ _ => pts_nil) (fun _ _ _ _ _ => (pe_tup (pa_cons (pe_callF (ok__law_take c) (hr.mono (by decide)) (pa_cons (pv 0) (pa_cons (pv 7) pa_nil))) (pa_cons (pv 7) (pa_cons (pe_callF (ok__law_pick c) (hr.mono (by decide)) (pa_cons (pv 0) (pa_cons (pv 4) pa_nil))) pa_nil))))))) pss_nil)
    (pss_cons (ps_for PassesOwn.never rfl (pi_range1 rfl tx.range (pa_cons (pe_op op_mul (pe_callF (ok__law_take c) (hr.mono (by decide)) (pa_cons (pv 0) (pa_cons (pe_callB (cMax2 rfl) (by rfl) tx.max bt_max (pa_cons pe_int (pa_cons (pe_op op_sub (pe_op op_add (pv 2) pe_int) (pe_callB (cLen g.K) (by rfl) tx.len bt_len (pa_cons (pv 6) pa_nil))) pa_nil))) pa_nil))) (pe_callTy cInt (by rfl) tx.int bt_int (pa_cons (pe_cmpR op_gt (pv 3) pe_int (nomark _)) pa_nil))) pa_nil)) (pg_name (i := 8) nd__law_net rfl (Or.inl rfl)) (pss_cons (ps_set (i := 9) nd__law_net rfl (Or.inl rfl) (pe_callF (ok__law_take c) (hr.mono (by decide)) (pa_cons (pv 0) (pa_cons (pv 3) pa_nil))))
    (pss_one (ps_expr (pe_bm PySem.F.plainAttrs_list PySem.F.slot_list_append PySem.F.type_list_append mt_append (pv 6) (pa_cons (pe_tup (pa_cons (pv 9) (pa_cons (pe_op op_mod (pe_callTy cInt (by rfl) tx.int bt_int (pa_cons (pe_op op_add (pe_op op_add (pv 9) pe_int) (pe_callF (ok__law_take c) (hr.mono (by decide)) (pa_cons (pv 0) (pa_cons (pe_op op_sub (pv 3) pe_int) pa_nil)))) pa_nil)) (pv 3)) (pa_cons (pe_callF (ok__law_pick c) (hr.mono (by decide)) (pa_cons (pv 0) (pa_cons (pv 4) pa_nil))) pa_nil)))) pa_nil))))))
    (pss_cons (ps_for PassesOwn.never rfl (pi_range1 rfl tx.range (pa_cons (pe_op op_mul (pe_callF (ok__law_take c) (hr.mono (by decide)) (pa_cons (pv 0) (pa_cons pe_int pa_nil))) (pe_callTy cInt (by rfl) tx.int bt_int (pa_cons (pe_cmpR op_gt (pe_callB (cLen g.K) (by rfl) tx.len bt_len (pa_cons (pv 6) pa_nil)) pe_int (nomark _)) pa_nil))) pa_nil)) (pg_name (i := 8) nd__law_net rfl (Or.inl rfl)) (pss_one (ps_expr (pe_bm PySem.F.plainAttrs_list PySem.F.slot_list_append PySem.F.type_list_append mt_append (pv 6) (pa_cons (pe_bm PySem.F.plainAttrs_list PySem.F.slot_list_pop PySem.F.type_list_pop mt_popAt (pv 6) (pa_cons (pe_callF (ok__law_take c) (hr.mono (by decide)) (pa_cons (pv 0) (pa_cons (pe_callB (cLen g.K) (by rfl) tx.len bt_len (pa_cons (pv 6) pa_nil)) pa_nil))) pa_nil)) pa_nil)))))
    (pss_one (ps_ret (pe_lst (pa_cons (pv 3) (pa_cons (pv 6) pa_nil))))))))))))), ?_⟩
  rintro xs Q ⟨rfl, hQ⟩
  refine sq_setP (P := fun x => ∃ h : Nat, x = .d (.int (h : Int)) ∧ 1 ≤ h ∧ h ≤ 6) (evp_I0 (k := fun i j => .int (i + j)) (f := fun i j => .int (i + j)) (Pa := fun a => a = 1) (Pb := fun a => ∃ k : Nat, a = (k : Int) ∧ k < 6) (ev_int (i := 1)).int (ev_takeI (m := 6) (ev_var rfl) (ev_var rfl) (by decide) (by decide)) fun i j e ⟨k, ek, hk⟩ => ⟨rfl, 1 + k, by rw [e, ek, Int.natCast_add]; rfl, by omega, by omega⟩) (fun x ⟨h, e, _⟩ => by rw [e]; rfl) ?_
  rintro x ⟨h, rfl, h1, h6⟩
  refine sq_setP (P := fun x => ∃ M, x = .d (intL M) ∧ Menu M 7) (pick_menus (L := [[0, 1, 1, 2, 3], [1, 1, 1], [1, 2, 3, 4, 5, 6, 7], [10 ^ 9, 10 ^ 9 - 1, 5 * 10 ^ 8, 1]]) (by unfold Menu; decide) (by decide) (by decide) (ev_var rfl)
    (ev_lst (ds := [intL [0, 1, 1, 2, 3], intL [1, 1, 1], intL [1, 2, 3, 4, 5, 6, 7], intL [10 ^ 9, 10 ^ 9 - 1, 5 * 10 ^ 8, 1]]) (ed_cons (ev_lst (ds := [.int 0, .int 1, .int 1, .int 2, .int 3]) (ed_cons ev_int (ed_cons ev_int (ed_cons ev_int (ed_cons ev_int (ed_cons ev_int ed_nil))))) (by simp)) (ed_cons (ev_lst (ds := [.int 1, .int 1, .int 1]) (ed_cons ev_int (ed_cons ev_int (ed_cons ev_int ed_nil))) (by simp)) (ed_cons (ev_lst (ds := [.int 1, .int 2, .int 3, .int 4, .int 5, .int 6, .int 7]) (ed_cons ev_int (ed_cons ev_int (ed_cons ev_int (ed_cons ev_int (ed_cons ev_int (ed_cons ev_int (ed_cons ev_int ed_nil))))))) (by simp))
      (ed_cons (ev_lst (ds := [.int (10 ^ 9), .int (10 ^ 9 - 1), .int (5 * 10 ^ 8), .int 1]) (ed_cons (ev_ten 9 9 rfl (by decide)) (ed_cons (ev_sub (ev_ten 9 9 rfl (by decide)) ev_int) (ed_cons (ev_mul ev_int (ev_ten 8 8 rfl (by decide)) (.inl ⟨by decide, by decide⟩)) (ed_cons ev_int ed_nil)))) (by simp)) ed_nil)))) (by simp))) (fun x ⟨M, e, _⟩ => by rw [e]; rfl) ?_
  rintro x ⟨M, rfl, hM⟩
  refine sq_setP (P := fun x => ∃ D, x = .d (intL D) ∧ Menu D) (evp_lst (PD := fun ds => ∃ a b c : Int, ds = [.int a, .int b, .int c] ∧ (0 ≤ a ∧ a ≤ 1000000000) ∧ (0 ≤ b ∧ b ≤ 1000000000) ∧ (0 ≤ c ∧ c ≤ 1000000000))
    ((eap_cons (ev_takeI (m := 1000000001) (ev_var rfl) ((ev_add (ev_ten 9 9 rfl (by decide)) ev_int).is (congrArg (fun i => Dx.d (.int i)) (by decide : ((10 : Int) ^ 9 + 1) = ((1000000001 : Nat) : Int)))) (by decide) (by decide)) (eap_cons (evp_I0 (k := fun i j => .int (i + j)) (f := fun i j => .int (i + j)) (P := fun x => ∃ i : Int, x = .d (.int i) ∧ 0 ≤ i ∧ i ≤ 1000000000) (Pa := fun a => a = 1) (Pb := fun a => ∃ k : Nat, a = (k : Int) ∧ k < 40) (ev_int (i := 1)).int (ev_takeI (m := 40) (ev_var rfl) (ev_n 40) (by decide) (by decide)) fun i j e ⟨k, ek, hk⟩ => ⟨rfl, _, rfl, by omega, by omega⟩)
      (eap_cons (evp_I0 (k := fun i j => .int (i + j)) (f := fun i j => .int (i + j)) (P := fun x => ∃ i : Int, x = .d (.int i) ∧ 0 ≤ i ∧ i ≤ 1000000000) (Pa := fun a => a = 1) (Pb := fun a => ∃ k : Nat, a = (k : Int) ∧ k < 1000000) (ev_int (i := 1)).int (ev_takeI (m := 1000000) (ev_var rfl) ((ev_ten 6 6 rfl (by decide)).is (congrArg (fun i => Dx.d (.int i)) (by decide : ((10 : Int) ^ 6) = ((1000000 : Nat) : Int)))) (by decide) (by decide)) fun i j e ⟨k, ek, hk⟩ => ⟨rfl, _, rfl, by omega, by omega⟩) ea_nil))).imp
      fun xs ⟨y, ys, e1, ⟨a, ea, k, ek, hk⟩, y2, ys2, e2, ⟨b, eb, b1, b2⟩, y3, ys3, e3, ⟨c', ec, c1, c2⟩, e4⟩ => ⟨[.int a, .int b, .int c'], by rw [e1, e2, e3, e4, ea, eb, ec]; rfl, by simp, a, b, c', rfl, ⟨by omega, by omega⟩, ⟨b1, b2⟩, ⟨c1, c2⟩⟩)
    fun ds ⟨a, b, c', e, ha, hb, hc⟩ => ⟨[a, b, c'], by rw [e]; rfl, by simp, by simp, fun x hx => by
      simp only [List.mem_cons, List.not_mem_nil, or_false] at hx
      rcases hx with rfl | rfl | rfl
      · exact ha
      · exact hb
      · exact hc⟩) (fun x ⟨D, e, _⟩ => by rw [e]; rfl) ?_
  rintro x ⟨D, rfl, hD⟩
  refine sq_setP (P := fun x => ∃ M, x = .d (intL M) ∧ Menu M) (pick_menus (L := [M, M, M ++ [0], [2, 3, 2, 10 ^ 9], D]) ?_ (by simp) (by simp) (ev_var rfl)
    (ev_lst (ds := [intL M, intL M, intL (M ++ [0]), intL [2, 3, 2, 10 ^ 9], intL D]) (ed_cons (ev_var rfl) (ed_cons (ev_var rfl) (ed_cons ((ev_cat (ds := M.map .int) (es := [.int 0]) (ev_var rfl) (ev_lst (ds := [.int 0]) (ed_cons ev_int ed_nil) (by simp)) rfl rfl (by rw [List.length_map]; have := hM.2.1; simp; omega)).is (by unfold intL; rw [List.map_append]; rfl)) (ed_cons (ev_lst (ds := [.int 2, .int 3, .int 2, .int (10 ^ 9)]) (ed_cons ev_int (ed_cons ev_int (ed_cons ev_int (ed_cons (ev_ten 9 9 rfl (by decide)) ed_nil)))) (by simp)) (ed_cons (ev_var rfl) ed_nil))))) (by simp))) (fun x ⟨M, e, _⟩ => by rw [e]; rfl) ?_
  · intro M' hM'
    simp only [List.mem_cons, List.not_mem_nil, or_false] at hM'
    have l1 : Menu M := ⟨hM.1, by have := hM.2.1; omega, hM.2.2⟩
    rcases hM' with rfl | rfl | rfl | rfl | rfl
    · exact l1
    · exact l1
    · refine ⟨by simp, by rw [List.length_append]; have := hM.2.1; simp; omega, fun x hx => ?_⟩
      rcases List.mem_append.mp hx with hx | hx
      · exact hM.2.2 x hx
      · rw [List.mem_singleton.mp hx]
        decide
    · unfold Menu
      decide
    · exact hD
  rintro x ⟨N, rfl, hN⟩
  refine sq_own ?_
  refine st_seq (M := fun ρ => ∃ (rs : List Road) (b7 : Option Dx), ρ = [some .feed, some (.d (.int 6)), some (.d (.int 12)), some (.d (.int (h : Int))), some (.d (intL N)), some (.d (intL D)), some (.own (rs.map rdD)), b7, none, none] ∧ (∀ r ∈ rs, RdOk h r) ∧ rs.length ≤ 5) ?_ ?_
  · refine st_if (P1 := fun b => b = true → 1 < h) (et_and (P1 := fun b => b = true → 1 < h) (P2 := fun _ => True) ((eb_test (ev_gt (ev_var (x := .d (.int (h : Int))) rfl) (ev_int (i := 1)))).imp fun b e hb => by rw [hb] at e; have := of_decide_eq_true e.symm; omega) (fun _ => et_gtI (ev_takeI (m := 3) (ev_var rfl) (ev_n 3) (by decide) (by decide)) (ev_int (i := 0)).int) (fun _ z => by cases z) fun b h1 _ _ => h1 rfl) (fun hb => ?_) fun _ => st_nx ⟨[], none, rfl, fun r hr => (by cases hr), Nat.zero_le _⟩
    have h2 := hb rfl
    refine st_ownWP (ewp_lcA (ds := rangeD 1 ((h : Int) - 1).toNat) (it_range2 ev_int (ev_var rfl) (by omega)) (by rw [rangeD_length]; omega) (fun i acc => ∃ rs : List Road, acc = rs.map rdD ∧ (∀ r ∈ rs, RdOk h r) ∧ rs.length = i) ⟨[], rfl, fun r hr => (by cases hr), rfl⟩ fun i d acc hd ⟨rs, e1, e2, e3⟩ => ?_) fun ds ⟨rs, e1, e2, e3⟩ => ⟨rs, none, by rw [e1]; rfl, e2, by rw [rangeD_length] at e3; omega⟩
    obtain ⟨rfl, hi⟩ := rangeD_get hd
    refine ⟨_, _, tg_d, by decide, evp_tup (PD := fun ds => ∃ r : Road, ds = [.int (r.1 : Int), .int (r.2.1 : Int), .int r.2.2] ∧ RdOk h r) ((eap_cons (ev_take (m := 1 + i) (ev_var rfl) ((ev_var (x := .d (.int (1 + (i : Int)))) rfl).is (by rw [Int.natCast_add]; rfl)) (by omega) (by omega)) (eap_cons (ev_var (x := .d (.int (1 + (i : Int)))) rfl) (eap_cons (pick_menu hN (ev_var rfl) (ev_var rfl)) ea_nil))).imp fun xs ⟨y, ys, q1, ⟨k, q2, q3⟩, y2, ys2, q4, q5, y3, ys3, q6, ⟨w, q7, q8, q9⟩, q10⟩ => ⟨[.int (k : Int), .int (1 + (i : Int)), .int w], by rw [q1, q2, q4, q5, q6, q7, q10]; rfl, by simp, (k, 1 + i, w), by rw [Int.natCast_add]; rfl, ⟨by show k < h; omega, by show 1 + i < h; omega, by show k ≠ 1 + i; omega, q8, q9⟩⟩)
      fun ds ⟨r, q1, q2⟩ => ⟨.tuple ds, rfl, rs ++ [r], by rw [e1, q1, List.map_append]; rfl, fun x hx => ?_, by rw [List.length_append, e3]; rfl⟩⟩
    rcases List.mem_append.mp hx with hx | hx
    · exact e2 x hx
    · rw [List.mem_singleton.mp hx]
      exact q2
  rintro ρ ⟨rs0, b7, rfl, hr0, hl0⟩
  have hmax : Ev g (tCB rMax2 (tCons (tC (.int 1)) (tCons (tOp (rI0 fun i j => .int (i - j)) (tOp (rI0 fun i j => .int (i + j)) (tVar 2) (tC (.int 1))) (tCB (rLenS g.K) (tCons (tVar 6) tNil))) tNil))) [some .feed, some (.d (.int 6)), some (.d (.int 12)), some (.d (.int (h : Int))), some (.d (intL N)), some (.d (intL D)), some (.own (rs0.map rdD)), b7, none, none] (.d (.int ((13 - rs0.length : Nat) : Int))) :=
    (ev_max2 (i := 1) (j := 12 + 1 - (rs0.length : Int)) ev_int (ev_sub (ev_add (ev_var rfl) ev_int) ((ev_len (x := .own (rs0.map rdD)) (ds := rs0.map rdD) (ev_var rfl) rfl).is (by rw [List.length_map])))).is (by congr 2; split <;> omega)
  refine st_seq (M := fun ρ => ∃ (rs : List Road) (b7 b8 b9 : Option Dx), ρ = [some .feed, some (.d (.int 6)), some (.d (.int 12)), some (.d (.int (h : Int))), some (.d (intL N)), some (.d (intL D)), some (.own (rs.map rdD)), b7, b8, b9] ∧ (∀ r ∈ rs, RdOk h r) ∧ rs.length ≤ 12) (st_for (PD := fun ds => ∃ n, ds = rangeD 0 n ∧ rs0.length + n ≤ 12 ∧ (0 < n → 1 < h)) (itp_range1 (Pn := fun n => rs0.length + n ≤ 12 ∧ (0 < n → 1 < h)) (evp_I (C := CMul) (k := fun i j => .int (i * j)) (f := fun i j => .int (i * j)) (Pa := fun a => ∃ k : Nat, a = (k : Int) ∧ k < 13 - rs0.length) (Pb := fun b => b = if decide (1 < (h : Int)) then 1 else 0) (ev_takeI (m := 13 - rs0.length) (ev_var rfl) hmax (by omega) (by omega)) (Ev.int (ev_intB (ev_gt (ev_var rfl) ev_int))) fun i j ⟨k, ek, hk⟩ ej => ?_))
    (fun ds i ρ => ∃ (rs : List Road) (b7 b8 b9 : Option Dx), ρ = [some .feed, some (.d (.int 6)), some (.d (.int 12)), some (.d (.int (h : Int))), some (.d (intL N)), some (.d (intL D)), some (.own (rs.map rdD)), b7, b8, b9] ∧ (∀ r ∈ rs, RdOk h r) ∧ rs.length + (ds.length - i) ≤ 12) ?_ ?_ ?_) ?_
  · subst ek ej
    by_cases hh : 1 < (h : Int)
    · rw [decide_eq_true hh]
      exact ⟨.inr ⟨by decide, by decide⟩, rfl, k, by rw [if_pos rfl, Int.mul_one], by omega, by omega, fun _ => by omega⟩
    · rw [decide_eq_false hh]
      exact ⟨.inr ⟨by decide, by decide⟩, rfl, 0, by rw [if_neg (by decide), Int.mul_zero]; rfl, by decide, by omega, fun z => by omega⟩
  · rintro ds ⟨n, rfl, hn, _⟩
    exact ⟨rs0, b7, none, none, rfl, hr0, by rw [rangeD_length]; omega⟩
  · rintro ds i d ρ ⟨n, rfl, hn, hn1⟩ hd ⟨rs, b7, b8, b9, rfl, hr, hl⟩
    obtain ⟨rfl, hi⟩ := rangeD_get hd
    rw [rangeD_length] at hl
    have hh := hn1 (by omega)
    refine ⟨_, _, tg_d, ?_⟩
    refine sq_setP (P := fun x => ∃ k : Nat, x = .d (.int (k : Int)) ∧ k < h) (ev_take (m := h) (ev_var rfl) (ev_var rfl) (by omega) (by omega)) (fun x ⟨k, e, _⟩ => by rw [e]; rfl) ?_
    rintro x ⟨s, rfl, hs⟩
    refine st_appP rfl (evp_tup (PD := fun ds => ∃ r : Road, ds = [.int (r.1 : Int), .int (r.2.1 : Int), .int r.2.2] ∧ RdOk h r) ((eap_cons (ev_var (x := .d (.int (s : Int))) rfl) (eap_cons (evp_I (C := fun _ j => 0 < j) (k := fun i j => .int (i % j)) (f := fun i j => .int (i % j)) (P := fun x => ∃ k : Nat, x = .d (.int (((s : Int) + 1 + (k : Int)) % (h : Int))) ∧ k < h - 1) (Pa := fun a => ∃ k : Nat, a = (s : Int) + 1 + (k : Int) ∧ k < h - 1) (Pb := fun b => b = (h : Int)) (evp_intI (Pi := fun a => ∃ k : Nat, a = (s : Int) + 1 + (k : Int) ∧ k < h - 1) (evp_I0 (k := fun i j => .int (i + j)) (f := fun i j => .int (i + j)) (Pa := fun a => a = (s : Int) + 1) (Pb := fun a => ∃ k : Nat, a = (k : Int) ∧ k < h - 1) (Ev.int (ev_add (ev_var rfl) ev_int)) (ev_takeI (m := h - 1) (ev_var rfl) ((ev_sub (ev_var rfl) ev_int).is (by congr 2; omega)) (by omega) (by omega)) fun i j ei ⟨k, ej, hk⟩ => ⟨rfl, _, rfl, k, by rw [ei, ej], hk⟩) fun i p => ⟨i, rfl, p⟩) (Ev.int (ev_var rfl)) fun i j ⟨k, ei, hk⟩ ej => ⟨by omega, rfl, k, by rw [ei, ej], hk⟩) (eap_cons (pick_menu hN (ev_var rfl) (ev_var rfl)) ea_nil))).imp
      fun xs ⟨y, ys, q1, q2, y2, ys2, q3, ⟨k, q4, q5⟩, y3, ys3, q6, ⟨w, q7, q8, q9⟩, q10⟩ => ?_) fun ds ⟨r, q1, q2⟩ => ⟨.tuple ds, rfl, by rw [List.length_map]; omega, rs ++ [r], b7, some (.d (.int (0 + (i : Int)))), some (.d (.int (s : Int))), by rw [q1, List.map_append]; rfl, fun x hx => ?_, by rw [List.length_append, rangeD_length]; simp; omega⟩)
    · obtain ⟨e, he, ho⟩ := road_of hs q5 q8 q9
      exact ⟨[.int (s : Int), .int (e : Int), .int w], by rw [q1, q2, q3, q4, q6, q7, q10, he]; rfl, by simp, (s, e, w), rfl, ho⟩
    · rcases List.mem_append.mp hx with hx | hx
      · exact hr x hx
      · rw [List.mem_singleton.mp hx]
        exact q2
  · rintro ds ρ ⟨n, rfl, hn, _⟩ ⟨rs, b7, b8, b9, rfl, hr, hl⟩
    exact ⟨rs, b7, b8, b9, rfl, hr, by omega⟩
  rintro ρ ⟨rs1, b7, b8, b9, rfl, hr1, hl1⟩
  refine st_seq (M := fun ρ => ∃ (rs : List Road) (b8 : Option Dx), ρ = [some .feed, some (.d (.int 6)), some (.d (.int 12)), some (.d (.int (h : Int))), some (.d (intL N)), some (.d (intL D)), some (.own (rs.map rdD)), b7, b8, b9] ∧ (∀ r ∈ rs, RdOk h r) ∧ rs.length ≤ 12) (st_for (PD := fun ds => ∃ n, ds = rangeD 0 n ∧ (0 < n → 1 < rs1.length)) (itp_range1 (Pn := fun n => (0 < n → 1 < rs1.length)) (evp_I (C := CMul) (k := fun i j => .int (i * j)) (f := fun i j => .int (i * j)) (Pa := fun a => ∃ k : Nat, a = (k : Int) ∧ k < 3) (Pb := fun b => b = if decide (1 < (rs1.length : Int)) then 1 else 0) (ev_takeI (m := 3) (ev_var rfl) (ev_n 3) (by omega) (by omega)) (Ev.int (ev_intB (ev_gt ((ev_len (x := .own (rs1.map rdD)) (ds := rs1.map rdD) (ev_var rfl) rfl).is (by rw [List.length_map])) ev_int))) fun i j ⟨k, ek, hk⟩ ej => ?_))
    (fun ds i ρ => ∃ (rs : List Road) (b8 : Option Dx), ρ = [some .feed, some (.d (.int 6)), some (.d (.int 12)), some (.d (.int (h : Int))), some (.d (intL N)), some (.d (intL D)), some (.own (rs.map rdD)), b7, b8, b9] ∧ (∀ r ∈ rs, RdOk h r) ∧ rs.length = rs1.length) ?_ ?_ ?_) ?_
  · subst ek ej
    by_cases hh : 1 < (rs1.length : Int)
    · rw [decide_eq_true hh]
      exact ⟨.inr ⟨by decide, by decide⟩, rfl, k, by rw [if_pos rfl, Int.mul_one], by omega, fun _ => by omega⟩
    · rw [decide_eq_false hh]
      exact ⟨.inr ⟨by decide, by decide⟩, rfl, 0, by rw [if_neg (by decide), Int.mul_zero]; rfl, by decide, fun z => by omega⟩
  · rintro ds ⟨n, rfl, hn⟩
    exact ⟨rs1, b8, rfl, hr1, rfl⟩
  · rintro ds i d ρ ⟨n, rfl, hn⟩ hd ⟨rs, b8, rfl, hr, hl⟩
    obtain ⟨rfl, hi⟩ := rangeD_get hd
    have hh := hn (by omega)
    refine ⟨_, _, tg_d, ?_⟩
    refine st_rot (ds := rs.map rdD) rfl ((ev_take (m := rs.length) (ev_var rfl) ((ev_len (x := .own (rs.map rdD)) (ds := rs.map rdD) (ev_var rfl) rfl).is (by rw [List.length_map])) (by omega) (by omega)).imp fun x ⟨k, e, hk⟩ => ⟨k, e, by rw [List.length_map]; exact hk⟩) (by rw [List.length_map]; omega) fun j d hd => ?_
    rw [List.getElem?_map] at hd
    cases hj : rs[j]? with
    | none => rw [hj] at hd; cases hd
    | some r =>
      rw [hj] at hd
      cases hd
      have hjl := (List.getElem?_eq_some_iff.mp hj).1
      refine ⟨rs.eraseIdx j ++ [r], some (.d (.int (0 + (i : Int)))), ?_, fun x hx => hr x (mem_rot hj hx), ?_⟩
      · rw [map_eraseIdx', List.map_append]
        rfl
      · rw [List.length_append, List.length_eraseIdx, if_pos hjl]
        simp
        omega
  · rintro ds ρ ⟨n, rfl, hn⟩ ⟨rs, b8, rfl, hr, hl⟩
    exact ⟨rs, b8, rfl, hr, by omega⟩
  rintro ρ ⟨rs, b8, rfl, hr, hl⟩
  exact st_freeze (i := 6) (ds := rs.map rdD) rfl (st_ret (ev_lst (ds := [.int (h : Int), rdsD rs]) (ed_cons (ev_var rfl) (ed_cons (ev_var rfl) ed_nil)) (by simp)) (hQ h rs ⟨h1, h6, hl, hr⟩))
end TB
set_option Elab.async false
set_option linter.all false
set_option autoImplicit false
set_option maxRecDepth 100000
set_option maxHeartbeats 4000000
namespace TB
open PySem PySem.Spec PyProof.Rows L2
theorem flow_le {rs : List Road} (h : ∀ r ∈ rs, 0 ≤ r.2.2 ∧ r.2.2 ≤ 1000000000) (l : List Nat) : 0 ≤ flowL rs l ∧ flowL rs l ≤ 1000000000 * (rs.length : Int) := by
  unfold flowL
  induction rs with
  | nil => exact ⟨Int.le_refl _, Int.le_refl _⟩
  | cons r rs ih =>
    obtain ⟨i1, i2⟩ := ih fun x hx => h x (List.mem_cons_of_mem _ hx)
    obtain ⟨h1, h2⟩ := h r List.mem_cons_self
    rw [List.filter_cons, List.length_cons]
    split
    · rw [List.map_cons, List.sum_cons]
      omega
    · omega
theorem sum_nn : ∀ {l : List Int}, (∀ x ∈ l, 0 ≤ x) → 0 ≤ l.sum
  | [], _ => Int.le_refl _
  | a :: l, h => by
    rw [List.sum_cons]
    have := h a List.mem_cons_self
    have := sum_nn (l := l) fun x hx => h x (List.mem_cons_of_mem _ hx)
    omega
theorem need_nn {h : Nat} {rs : List Road} {ms : List Msg} (ok : NewsOk h rs ms) (l : List Nat) : 0 ≤ needN rs ms l := by
  unfold needN
  refine sum_nn fun x hx => ?_
  obtain ⟨m, hm, rfl⟩ := List.mem_map.mp hx
  have := (ok.msg m (List.mem_filter.mp hm).1).2.1
  omega
theorem more_le {h : Nat} {rs : List Road} {ms : List Msg} (ok : NewsOk h rs ms) (l : List Nat) : flowL rs l - needN rs ms l ≤ 12000000000 := by
  have h1 := (flow_le (rs := rs) (fun r hr => ⟨(ok.net.road r hr).2.2.2.1, (ok.net.road r hr).2.2.2.2⟩) l).2
  have h2 := need_nn ok l
  have h3 := ok.net.many
  omega
theorem evp_pick {g : Gb} {ta tb : TE} {ρ : Rho} {P : Dx → Prop} (ha : Ev g ta ρ .feed) (hb : EvP g tb ρ (fun x => ∃ ds, x = .d (.list ds) ∧ 1 ≤ ds.length ∧ ds.length ≤ 1000 ∧ ∀ d ∈ ds, P (.d d))) : EvP g (tCall (spOf g S__law_pick) [] E0 (tCons ta (tCons tb tNil))) ρ P :=
  evp_call (eap_cons ha (eap_cons hb ea_nil)) fun xs ⟨y, ys, e1, e2, y2, ys2, e3, ⟨ds, e4, h1, h2, h3⟩, e5⟩ => by
    rw [e1, e2, e3, e4, e5]
    exact ⟨rfl, ds, rfl, h1, by omega, h3⟩
def S__law_message : SpD := fun xs P => ∃ (h : Nat) (rs : List Road) (ms : List Msg), xs = [.feed, .d (.int (h : Int)), .d (rdsD rs), .d (msgsD ms)] ∧ NewsOk h rs ms ∧ ∀ m, MsgOk h m → P (.d (msgD m))
abbrev N__law_message : List Str := ["_law_feed_here", "_law_many", "_law_roads", "_law_messages", "_law_knowing", "_law_heard", "_law_some", "_law_lot_here", "_law_more", "_law_least"]
abbrev ps__law_message : List Str := ["_law_feed_here", "_law_many", "_law_roads", "_law_messages"]
theorem sc__law_message : FnScope N__law_message ps__law_message (defScope s_law_message) := ⟨rfl, rfl, rfl, by decide +kernel, rfl, by decide +kernel, by decide +kernel⟩
theorem nd__law_message : N__law_message.Nodup := sc__law_message.nd
theorem bd__law_message : BindH "_law_message" "_law_message" ps__law_message s_law_message := fun _ _ _ _ _ _ us hl => match us, hl with | [_, _, _, _], _ => rfl
theorem ok__law_message {P : Program} {w : World} {mg : Str → Option Value} {base : Heap} {g : Gb} (c : Txt g mg base) : FOk P w g.K mg base 4 "_law_message" ps__law_message (spOf g S__law_message) := by
  have tx := txt_tx c
  refine FOk.mk' (h__law_message c) sc__law_message bd__law_message (by intro xs Q h; unfold S__law_message at h; (repeat' (rcases h with ⟨_, h⟩)); subst_vars; rfl) fun cdv A outer s H E hr => ⟨_, (pss_cons (ps_set (i := 4) nd__law_message rfl (Or.inl rfl) (pe_callF (ok__law_lot c) (hr.mono (by decide)) (pa_cons (pv 0) (pa_cons (pv 1) pa_nil))))
    (pss_cons (ps_set (i := 5) nd__law_message rfl (Or.inl rfl) (pe_callF (ok__law_led c) (hr.mono (by decide)) (pa_cons (pv 2) (pa_cons (pv 4) pa_nil))))
    (pss_cons (ps_set (i := 6) nd__law_message rfl (Or.inl rfl) (pe_lst pa_nil))
    (pss_cons (ps_for PassesOwn.never rfl (piL g.K (pe_callF (ok__law_rows c) (hr.mono (by decide)) (pa_cons (pv 1) (pa_cons (pv 2) (pa_cons (pv 3) (pa_cons pe_bl pa_nil)))))) (pgT g.K 2 (pgs_cons (pg_name (i := 7) nd__law_message rfl (Or.inl rfl)) (pgs_cons (pg_name (i := 8) nd__law_message rfl (Or.inl rfl)) pgs_nil))) (pss_one (ps_if (PW.pt (pw_and (pt_val (pe_callF (ok__law_meet c) (hr.mono (by decide)) (pa_cons (pv 7) (pa_cons (pv 5) pa_nil)))) (pw_and1 (pt_not (pt_val (pe_callF (ok__law_meet c) (hr.mono (by decide)) (pa_cons (pv 7) (pa_cons (pv 4) pa_nil)))))))) (pss_one (ps_expr (pe_bm PySem.F.plainAttrs_list PySem.F.slot_list_append PySem.F.type_list_append mt_append (pv 6) (pa_cons (pv 8) pa_nil)))) pss_nil)))
    (pss_cons (ps_set (i := 9) nd__law_message rfl (Or.inl rfl) (pe_ifExp (pt_cmpR (opNeD g.K hr.units) (pv 6) (pe_lst pa_nil) (nomark _)) (pe_callB (cMin g.K rfl) (by rfl) tx.min bt_min (pa_cons (pv 6) pa_nil)) pe_int))
    (pss_cons (ps_if (PW.pt (pw_and (pt_cmpR op_gt (pv 9) pe_int (nomark _)) (pw_and1 (pt_cmpR op_gt (pe_callF (ok__law_take c) (hr.mono (by decide)) (pa_cons (pv 0) (pa_cons pe_int pa_nil))) pe_int (nomark _))))) (pss_one (ps_ret (pe_tup (pa_cons (pv 4) (pa_cons (pe_callF (ok__law_pick c) (hr.mono (by decide)) (pa_cons (pv 0) (pa_cons (pe_lst (pa_cons pe_int (pa_cons (pv 9) (pa_cons (pv 9) (pa_cons (pe_op op_add pe_int (pe_callF (ok__law_take c) (hr.mono (by decide)) (pa_cons (pv 0) (pa_cons (pv 9) pa_nil)))) (pa_cons (pe_callB (cMax2 rfl) (by rfl) tx.max bt_max (pa_cons pe_int (pa_cons (pe_op op_fdivW (pv 9) pe_int) pa_nil))) pa_nil)))))) pa_nil))) pa_nil))))) pss_nil)
    (pss_one (ps_ret (pe_tup (pa_cons (pv 4) (pa_cons (pe_callF (ok__law_pick c) (hr.mono (by decide)) (pa_cons (pv 0) (pa_cons (pe_lst (pa_cons pe_int (pa_cons pe_int (pa_cons (pe_callB (cMax2 rfl) (by rfl) tx.max bt_max (pa_cons pe_int (pa_cons (pe_op op_add (pv 9) pe_int) pa_nil))) (pa_cons (pe_op op_pow pe_int pe_int) (pa_cons (pe_op op_add (pe_op op_pow pe_int pe_int) pe_int) pa_nil)))))) pa_nil))) pa_nil))))))))))), ?_⟩
  rintro xs Q ⟨h, rs, ms, rfl, ok, hQ⟩
  have hh := ok.net.h6
  have h1 := ok.net.h1
  have hrl := ok.net.many
  have he6 : ∀ r ∈ rs, r.2.1 < 6 := fun r hr => by have := (ok.net.road r hr).2.1; omega
  refine sq_setP (P := fun x => ∃ l, x = .d (tupN l) ∧ LotOk h l) (ev_call (ea_cons (ev_var rfl) (ea_cons (ev_var rfl) ea_nil)) ⟨h, rfl, h1, hh, fun l hl => ⟨l, rfl, hl⟩⟩) (fun x ⟨l, e, _⟩ => by rw [e]; rfl) ?_
  rintro x ⟨K, rfl, hK⟩
  have hKl := hK.len hh
  refine sq_set (x := .d (tupN (heardL rs K))) (lled_call (d := tupN K) (ev_var rfl) (ev_var rfl) rfl he6 (fun v hv => by have := hK.2.2 v hv; omega) (by omega) (by omega)) ?_
  refine sq_own ?_
  refine st_seq (M := fun ρ => ∃ (L : List Int) (a b : Option Dx), ρ = [some .feed, some (.d (.int (h : Int))), some (.d (rdsD rs)), some (.d (msgsD ms)), some (.d (tupN K)), some (.d (tupN (heardL rs K))), some (.own (L.map .int)), a, b, none] ∧ ∀ x ∈ L, x ≤ 12000000000) (st_for (it_list (ds := (lotsL h).map fun l => PyData.tuple [tupN l, .int (flowL rs l - needN rs ms l)]) (ev_call (P := fun y => y = .d (rowsL h fun l => flowL rs l - needN rs ms l)) (ea_cons (ev_var rfl) (ea_cons (ev_var rfl) (ea_cons (ev_var rfl) (ea_cons ev_bl ea_nil)))) ⟨h, rs, ms, rfl, ok, rfl⟩))
    (fun _ i ρ => ∃ (L : List Int) (a b : Option Dx), ρ = [some .feed, some (.d (.int (h : Int))), some (.d (rdsD rs)), some (.d (msgsD ms)), some (.d (tupN K)), some (.d (tupN (heardL rs K))), some (.own (L.map .int)), a, b, none] ∧ (∀ x ∈ L, x ≤ 12000000000) ∧ L.length ≤ i) ?_ ?_ ?_) ?_
  · rintro ds rfl
    exact ⟨[], none, none, rfl, fun x hx => (by cases hx), Nat.zero_le _⟩
  · rintro ds i d ρ rfl hd ⟨L, a, b, rfl, hL, hLl⟩
    rw [List.getElem?_map] at hd
    cases hs : (lotsL h)[i]? with
    | none => rw [hs] at hd; cases hd
    | some l =>
      rw [hs] at hd
      cases hd
      have hlot : LotOk h l := lotsL_ok h (by omega) l (List.mem_of_getElem? hs)
      have hl6 := hlot.len hh
      have hi := (List.getElem?_eq_some_iff.mp hs).1
      have hlots := lotsL_len h (by omega)
      refine ⟨_, _, tg_tup (tgs_cons tg_d (tgs_cons tg_d tgs_nil)) rfl, ?_⟩
      refine st_ifB (eb_and (eb_test (lmeet_call (d := tupN (heardL rs K)) (ev_var rfl) (ev_var rfl) rfl (by omega))) fun _ => eb_not (eb_test (lmeet_call (d := tupN K) (ev_var rfl) (ev_var rfl) rfl (by omega)))) (fun _ => ?_) fun _ => st_nx ⟨L, some (.d (tupN l)), some (.d (.int (flowL rs l - needN rs ms l))), rfl, hL, by omega⟩
      refine st_app rfl (ev_var rfl) (by rw [List.length_map]; omega) ⟨L ++ [flowL rs l - needN rs ms l], some (.d (tupN l)), some (.d (.int (flowL rs l - needN rs ms l))), by rw [List.map_append]; rfl, fun x hx => ?_, by rw [List.length_append]; simp; omega⟩
      rcases List.mem_append.mp hx with hx | hx
      · exact hL x hx
      · rw [List.mem_singleton.mp hx]
        exact more_le ok l
  · rintro ds ρ rfl ⟨L, a, b, rfl, hL, _⟩
    exact ⟨L, a, b, rfl, hL⟩
  rintro ρ ⟨L, a, b, rfl, hL⟩
  refine st_freeze (i := 6) (ds := L.map .int) rfl ?_
  refine sq_setP (P := fun x => ∃ n : Int, x = .d (.int n) ∧ n ≤ 12000000000) (evp_if (P1 := fun b => b = !decide (L = [])) ((eb_test (ev_neD (ev_var rfl) (ev_lst ed_nil) (pl_list (n := 0) (pl_ints L)).sh rfl)).imp fun b e => ?_) (fun e => evp_min (ns := L) (ev_var rfl) rfl (fun z => by rw [z] at e; cases e) fun m hm _ => ⟨m, rfl, hL m hm⟩) fun _ => (ev_int (i := 7)).imp fun x e => ⟨7, e, by decide⟩) (fun x ⟨n, e, _⟩ => by rw [e]; rfl) ?_
  · rw [e]
    show (!PyData.eqv (.list (L.map .int)) (.list [])) = _
    rw [eqv_nil]
    simp
  rintro x ⟨n, rfl, hn⟩
  have fin : ∀ (ρ : Rho) (tp : TE), ρ[4]? = some (some (.d (tupN K))) → EvP g tp ρ (fun x => ∃ m : Int, x = .d (.int m) ∧ 1 ≤ m ∧ m ≤ 1000000000000) → EvP g (tTup (tCons (tVar 4) (tCons tp tNil))) ρ (fun x => x.fz = true ∧ Q x) := fun ρ tp h4 hp =>
    evp_tup (PD := fun ds => ∃ m : Int, ds = [tupN K, .int m] ∧ 1 ≤ m ∧ m ≤ 1000000000000) ((eap_cons (ev_var h4) (eap_cons hp ea_nil)).imp fun xs ⟨y, ys, e1, e2, y2, ys2, e3, ⟨m, e4, m1, m2⟩, e5⟩ => ⟨[tupN K, .int m], by rw [e1, e2, e3, e4, e5]; rfl, by simp, m, rfl, m1, m2⟩) fun ds ⟨m, e, m1, m2⟩ => ⟨rfl, by rw [e]; exact hQ (K, m) ⟨hK, m1, m2⟩⟩
  refine sq_if (P1 := fun b => b = true → 0 < n) (et_and (P1 := fun b => b = true → 0 < n) (P2 := fun _ => True) ((eb_test (ev_gt (ev_var (x := .d (.int n)) rfl) (ev_int (i := 0)))).imp fun b e hb => by rw [hb] at e; exact of_decide_eq_true e.symm) (fun _ => et_gtI (ev_takeI (m := 5) (ev_var rfl) (ev_n 5) (by decide) (by decide)) (ev_int (i := 0)).int) (fun _ z => by cases z) fun b h1 _ _ => h1 rfl) (fun hb => ?_) fun _ => ?_
  · have n0 := hb rfl
    refine sq_ret (st_retP (fin _ _ rfl (evp_pick (ev_var rfl) (evp_lst (PD := fun ds => ∃ k : Nat, ds = [.int 1, .int n, .int n, .int (1 + (k : Int)), .int (if n / 2 > 1 then n / 2 else 1)] ∧ (k : Int) < n) ((eap_cons (ev_int (i := 1)) (eap_cons (ev_var (x := .d (.int n)) rfl) (eap_cons (ev_var (x := .d (.int n)) rfl) (eap_cons (evp_I0 (k := fun i j => .int (i + j)) (f := fun i j => .int (i + j)) (P := fun x => ∃ k : Nat, x = .d (.int (1 + (k : Int))) ∧ (k : Int) < n) (Pa := fun a => a = 1) (Pb := fun a => ∃ k : Nat, a = (k : Int) ∧ k < n.toNat) (ev_int (i := 1)).int (ev_takeI (m := n.toNat) (ev_var rfl) ((ev_var (x := .d (.int n)) rfl).is (by rw [Int.toNat_of_nonneg (by omega)])) (by omega) (by omega)) fun i j ei ⟨k, ej, hk⟩ => ⟨rfl, k, by rw [ei, ej], by omega⟩) (eap_cons (ev_max2 (i := 1) (j := n / 2) ev_int (ev_fdivW (ev_var rfl) ev_int (divW_ok (m := 2) (by decide) (by decide) n))) ea_nil))))).imp
      fun xs ⟨y, ys, e1, e2, y2, ys2, e3, e4, y3, ys3, e5, e6, y4, ys4, e7, ⟨k, e8, hk⟩, y5, ys5, e9, e10, e11⟩ => ⟨[.int 1, .int n, .int n, .int (1 + (k : Int)), .int (if n / 2 > 1 then n / 2 else 1)], by rw [e1, e2, e3, e4, e5, e6, e7, e8, e9, e10, e11]; rfl, by simp, k, rfl, hk⟩) fun ds ⟨k, e, hk⟩ => ⟨ds, rfl, by rw [e]; simp, by rw [e]; simp, fun d hd => ?_⟩))))
    rw [e] at hd
    simp only [List.mem_cons, List.not_mem_nil, or_false] at hd
    have hdiv : n / 2 ≤ n := by omega
    rcases hd with rfl | rfl | rfl | rfl | rfl
    · exact ⟨1, rfl, by decide, by decide⟩
    · exact ⟨n, rfl, by omega, by omega⟩
    · exact ⟨n, rfl, by omega, by omega⟩
    · exact ⟨_, rfl, by omega, by omega⟩
    · exact ⟨_, rfl, by split <;> omega, by split <;> omega⟩
  · refine sq_nx (st_retP (fin _ _ rfl (ev_pick (ds := [.int 1, .int 2, .int (if n + 1 > 1 then n + 1 else 1), .int (10 ^ 12), .int (10 ^ 9 + 1)]) (ev_var rfl) (ev_lst (ds := [.int 1, .int 2, .int (if n + 1 > 1 then n + 1 else 1), .int (10 ^ 12), .int (10 ^ 9 + 1)]) (ed_cons ev_int (ed_cons ev_int (ed_cons (ev_max2 (i := 1) (j := n + 1) ev_int (ev_add (ev_var rfl) ev_int)) (ed_cons (ev_ten 12 12 rfl (by decide)) (ed_cons (ev_add (ev_ten 9 9 rfl (by decide)) ev_int) ed_nil))))) (by simp)) (by simp) (by simp) fun d hd => ?_)))
    simp only [List.mem_cons, List.not_mem_nil, or_false] at hd
    rcases hd with rfl | rfl | rfl | rfl | rfl
    · exact ⟨1, rfl, by decide, by decide⟩
    · exact ⟨2, rfl, by decide, by decide⟩
    · exact ⟨_, rfl, by split <;> omega, by split <;> omega⟩
    · exact ⟨_, rfl, by decide, by decide⟩
    · exact ⟨_, rfl, by decide, by decide⟩
def S__law_news : SpD := fun xs P => xs = [.feed, .d (.int 6), .d (.int 12), .d (.int 3)] ∧ ∀ (h : Nat) (rs : List Road) (ms : List Msg), NewsOk h rs ms → P (.d (.list [.int (h : Int), rdsD rs, msgsD ms]))
abbrev N__law_news : List Str := ["_law_feed_here", "_law_houses", "_law_most_roads", "_law_most_messages", "_law_many", "_law_roads", "_law_messages", "_law_turn"]
abbrev ps__law_news : List Str := ["_law_feed_here", "_law_houses", "_law_most_roads", "_law_most_messages"]
theorem sc__law_news : FnScope N__law_news ps__law_news (defScope s_law_news) := ⟨rfl, rfl, rfl, by decide +kernel, rfl, by decide +kernel, by decide +kernel⟩
theorem nd__law_news : N__law_news.Nodup := sc__law_news.nd
theorem bd__law_news : BindH "_law_news" "_law_news" ps__law_news s_law_news := fun _ _ _ _ _ _ us hl => match us, hl with | [_, _, _, _], _ => rfl
theorem ok__law_news {P : Program} {w : World} {mg : Str → Option Value} {base : Heap} {g : Gb} (c : Txt g mg base) : FOk P w g.K mg base 5 "_law_news" ps__law_news (spOf g S__law_news) := by
  have tx := txt_tx c
  refine FOk.mk' (h__law_news c) sc__law_news bd__law_news (by intro xs Q h; unfold S__law_news at h; (repeat' (rcases h with ⟨_, h⟩)); subst_vars; rfl) fun cdv A outer s H E hr => ⟨_, (pss_cons (ps_asg (pe_callF (ok__law_net c) (hr.mono (by decide)) (pa_cons (pv 0) (pa_cons (pv 1) (pa_cons (pv 2) pa_nil)))) (pgL g.K 2 (pgs_cons (pg_name (i := 4) nd__law_news rfl (Or.inl rfl)) (pgs_cons (pg_name (i := 5) nd__law_news rfl (Or.inl rfl)) pgs_nil))))
    (pss_cons (ps_set (i := 6) nd__law_news rfl (Or.inl rfl) (pe_lst pa_nil))
    (pss_cons (ps_for PassesOwn.never rfl (pi_range1 rfl tx.range (pa_cons (pe_callF (ok__law_take c) (hr.mono (by decide)) (pa_cons (pv 0) (pa_cons (pe_op op_add (pv 3) pe_int) pa_nil))) pa_nil)) (pg_name (i := 7) nd__law_news rfl (Or.inl rfl)) (pss_one (ps_set (i := 6) nd__law_news rfl (Or.inl rfl) (pe_op op_cat (pv 6) (pe_lst (pa_cons (pe_callF (ok__law_message c) (hr.mono (by decide)) (pa_cons (pv 0) (pa_cons (pv 4) (pa_cons (pv 5) (pa_cons (pv 6) pa_nil))))) pa_nil))))))
    (pss_one (ps_ret (pe_lst (pa_cons (pv 4) (pa_cons (pv 5) (pa_cons (pv 6) pa_nil))))))))), ?_⟩
  rintro xs Q ⟨rfl, hQ⟩
  refine sq_asg (P := fun x => ∃ (h : Nat) (rs : List Road), x = .d (.list [.int (h : Int), rdsD rs]) ∧ NetOk h rs) (ev_call (ea_cons (ev_var rfl) (ea_cons (ev_var rfl) (ea_cons (ev_var rfl) ea_nil))) ⟨rfl, fun h rs ok => ⟨h, rs, rfl, ok⟩⟩) ?_
  rintro x ⟨h, rs, rfl, nok⟩
  refine ⟨_, _, tg_lst (tgs_cons tg_d (tgs_cons tg_d tgs_nil)) rfl, ?_⟩
  refine sq_set (x := .d (msgsD [])) (ev_lst ed_nil) ?_
  refine st_seq (M := fun ρ => ∃ (ms : List Msg) (a : Option Dx), ρ = [some .feed, some (.d (.int 6)), some (.d (.int 12)), some (.d (.int 3)), some (.d (.int (h : Int))), some (.d (rdsD rs)), some (.d (msgsD ms)), a] ∧ NewsOk h rs ms) (st_for (PD := fun ds => ∃ n, ds = rangeD 0 n ∧ n ≤ 3) (itp_range1 (Pn := fun n => n ≤ 3) ((ev_take (m := 4) (ev_var rfl) ((ev_add (ev_var rfl) ev_int).is rfl) (by decide) (by decide)).imp fun x ⟨k, e, hk⟩ => ⟨k, e, by omega, by omega⟩))
    (fun ds i ρ => ∃ (ms : List Msg) (a : Option Dx), ρ = [some .feed, some (.d (.int 6)), some (.d (.int 12)), some (.d (.int 3)), some (.d (.int (h : Int))), some (.d (rdsD rs)), some (.d (msgsD ms)), a] ∧ NewsOk h rs ms ∧ ms.length ≤ i) ?_ ?_ ?_) ?_
  · rintro ds ⟨n, rfl, hn⟩
    exact ⟨[], none, rfl, ⟨nok, by decide, fun m hm => (by cases hm)⟩, Nat.le_refl _⟩
  · rintro ds i d ρ ⟨n, rfl, hn⟩ hd ⟨ms, a, rfl, ok, hl⟩
    obtain ⟨rfl, hi⟩ := rangeD_get hd
    refine ⟨_, _, tg_d, ?_⟩
    refine st_setP ((evp_cat (P := fun x => ∃ m, x = .d (msgsD (ms ++ [m])) ∧ MsgOk h m) (P1 := fun ds => ds = ms.map msgD) (P2 := fun ds => ∃ m, ds = [msgD m] ∧ MsgOk h m) ((ev_var (x := .d (msgsD ms)) rfl).imp fun x e => ⟨ms.map msgD, by rw [e]; rfl, rfl⟩) (evp_lst (PD := fun ds => ∃ m, ds = [msgD m] ∧ MsgOk h m) ((eap_cons (ev_call (P := fun x => ∃ m, x = .d (msgD m) ∧ MsgOk h m) (ea_cons (ev_var rfl) (ea_cons (ev_var rfl) (ea_cons (ev_var rfl) (ea_cons (ev_var rfl) ea_nil)))) ⟨h, rs, ms, rfl, ok, fun m hm => ⟨m, rfl, hm⟩⟩) ea_nil).imp fun xs ⟨y, ys, e1, ⟨m, e2, hm⟩, e3⟩ => ⟨[msgD m], by rw [e1, e2, e3]; rfl, by simp, m, rfl, hm⟩) fun ds p => ⟨ds, rfl, p⟩)
      fun x y ex ⟨m, ey, hm⟩ => ⟨by rw [ex, ey, List.length_map]; simp; omega, m, by rw [ex, ey]; show _ = Dx.d (.list ((ms ++ [m]).map msgD)); rw [List.map_append]; rfl, hm⟩).imp fun x ⟨m, e, hm⟩ => ⟨by rw [e]; rfl, ms ++ [m], some (.d (.int (0 + (i : Int)))), by rw [e]; rfl, ⟨nok, by rw [List.length_append]; simp; omega, fun m' hm' => ?_⟩, by rw [List.length_append]; simp; omega⟩)
    rcases List.mem_append.mp hm' with h' | h'
    · exact ok.msg m' h'
    · rw [List.mem_singleton.mp h']
      exact hm
  · rintro ds ρ ⟨n, rfl, hn⟩ ⟨ms, a, rfl, ok, _⟩
    exact ⟨ms, a, rfl, ok⟩
  rintro ρ ⟨ms, a, rfl, ok⟩
  exact st_ret (ev_lst (ds := [.int (h : Int), rdsD rs, msgsD ms]) (ed_cons (ev_var rfl) (ed_cons (ev_var rfl) (ed_cons (ev_var rfl) ed_nil))) (by simp)) (hQ h rs ms ok)
end TB
set_option Elab.async false
set_option linter.all false
set_option autoImplicit false
set_option maxRecDepth 100000
set_option maxHeartbeats 4000000
namespace TB
open PySem PySem.Spec PyProof.Rows L2
theorem natsL_snoc (l : List Nat) (a : Nat) : natsL l ++ [.int (a : Int)] = natsL (l ++ [a]) := by
  unfold natsL
  rw [List.map_append]
  rfl
theorem pick_nat {g : Gb} {ta tb : TE} {ρ : Rho} {l : List Nat} (ha : Ev g ta ρ .feed) (hb : Ev g tb ρ (.d (listN l))) (h1 : l ≠ []) (h2 : l.length ≤ 1000) : EvP g (tCall (spOf g S__law_pick) [] E0 (tCons ta (tCons tb tNil))) ρ (fun x => ∃ a : Nat, x = .d (.int (a : Int)) ∧ a ∈ l) :=
  ev_pick ha hb (by rw [natsL_length]; cases l with | nil => exact absurd rfl h1 | cons _ _ => simp) (by rw [natsL_length]; omega) fun d hd => by
    obtain ⟨a, hm, rfl⟩ := List.mem_map.mp hd
    exact ⟨a, rfl, hm⟩
/-! ### what is begun of entries -/
/-- a row that was built by roads of row, each from what is known -/
def Built (rs : List Road) (K row s : List Nat) : Prop := s.Nodup ∧ (∀ a ∈ s, a ∈ row) ∧ ∀ (j a : Nat), s[j]? = some a → (rd rs a).1 ∈ K ++ ends rs (s.take j)
theorem Built.nil {rs : List Road} {K row : List Nat} : Built rs K row [] := ⟨List.nodup_nil, fun a h => (by cases h), fun j a h => (by cases h)⟩
theorem Built.snoc {rs : List Road} {K row s : List Nat} {a : Nat} (b : Built rs K row s) (h1 : a ∈ row) (h2 : a ∉ s) (h3 : (rd rs a).1 ∈ K ++ ends rs s) : Built rs K row (s ++ [a]) := by
  obtain ⟨q1, q2, q3⟩ := b
  refine ⟨List.nodup_append.mpr ⟨q1, List.nodup_cons.mpr ⟨by simp, List.nodup_nil⟩, fun x hx y hy e => ?_⟩, fun x hx => ?_, fun j x hx => ?_⟩
  · rw [List.mem_singleton.mp hy] at e
    exact h2 (e ▸ hx)
  · rcases List.mem_append.mp hx with hx | hx
    · exact q2 x hx
    · rw [List.mem_singleton.mp hx]
      exact h1
  · by_cases hj : j < s.length
    · rw [List.getElem?_append_left hj] at hx
      rw [List.take_append_of_le_length (by omega)]
      exact q3 j x hx
    · have hjl := (List.getElem?_eq_some_iff.mp hx).1
      rw [List.length_append, List.length_singleton] at hjl
      have : j = s.length := by omega
      subst this
      rw [List.getElem?_append_right (Nat.le_refl _), Nat.sub_self] at hx
      cases hx
      rw [List.take_left]
      exact h3
theorem ends_nodup_inj {rs : List Road} {row : List Nat} (h : (ends rs row).Nodup) {a b : Nat} (ha : a ∈ row) (hb : b ∈ row) (e : (rd rs a).2.1 = (rd rs b).2.1) : a = b := by
  obtain ⟨i, hi⟩ := List.mem_iff_getElem?.mp ha
  obtain ⟨j, hj⟩ := List.mem_iff_getElem?.mp hb
  have il := (List.getElem?_eq_some_iff.mp hi).1
  have h1 : (ends rs row)[i]? = some (rd rs a).2.1 := by unfold ends; rw [List.getElem?_map, hi]; rfl
  have h2 : (ends rs row)[j]? = some (rd rs b).2.1 := by unfold ends; rw [List.getElem?_map, hj]; rfl
  have : i = j := (List.getElem?_inj (by unfold ends; rw [List.length_map]; exact il) h).mp (by rw [h1, h2, e])
  subst this
  rw [hi] at hj
  exact Option.some.inj hj
theorem ends_perm {rs : List Road} {s s' : List Nat} (p : s.Perm s') : (ends rs s).Perm (ends rs s') := p.map _
theorem Reach.mono {es es' : List (Nat × Nat)} {hs : List Nat} (h : ∀ e ∈ es, e ∈ es') {v : Nat} (r : Reach es hs v) : Reach es' hs v := by
  induction r with
  | base q => exact .base q
  | step q _ ih => exact .step (h _ q) ih
theorem LedOk.perm {rs : List Road} {K s s' : List Nat} (p : s.Perm s') (l : LedOk rs K s) : LedOk rs K s' := by
  obtain ⟨h1, h2, h3⟩ := l
  have q := ends_perm (rs := rs) p
  refine ⟨q.nodup_iff.mp h1, fun v hv => h2 v (q.mem_iff.mpr hv), fun v hv => (h3 v (q.mem_iff.mpr hv)).mono fun e he => ?_⟩
  unfold eds at he ⊢
  exact (p.map _).mem_iff.mp he
theorem Built.led {rs : List Road} {K row s : List Nat} (b : Built rs K row s) (h1 : (ends rs s).Nodup) (h2 : ∀ v ∈ ends rs s, v ∉ K) : LedOk rs K s := by
  refine ⟨h1, h2, ?_⟩
  have key : ∀ j, ∀ v ∈ ends rs (s.take j), Reach (eds rs s) K v := by
    intro j
    induction j with
    | zero => intro v hv; cases hv
    | succ j ih =>
      intro v hv
      cases hs : s[j]? with
      | none =>
        have : s.take (j + 1) = s.take j := by rw [List.take_add_one, hs]; simp
        rw [this] at hv
        exact ih v hv
      | some a =>
        rw [List.take_add_one, hs, Option.toList_some] at hv
        unfold ends at hv
        rw [List.map_append] at hv
        rcases List.mem_append.mp hv with hv | hv
        · exact ih v hv
        · rw [List.mem_singleton.mp hv]
          refine .step (u := (rd rs a).1) (List.mem_map.mpr ⟨a, List.mem_of_getElem? hs, rfl⟩) ?_
          rcases List.mem_append.mp (b.2.2 j a hs) with q | q
          · exact .base q
          · exact ih _ q
  intro v hv
  have := key s.length v
  rw [List.take_length] at this
  exact this hv
theorem srt_row {rs : List Road} {s : List Nat} (nd : s.Nodup) (h : ∀ a ∈ s, a < rs.length ∧ 0 < (rd rs a).2.2) : RowOk rs (srtN s) := ⟨srtN_lt nd, fun a ha => h a ((srtN_perm s).mem_iff.mp ha)⟩
def S__law_forest : SpD := fun xs P => ∃ (rs : List Road) (m : Msg), xs = [.feed, .d (rdsD rs), .d (msgD m)] ∧ rs.length ≤ 12 ∧ m.1.length ≤ 6 ∧ ∀ row : List Nat, RowOk rs row → LedOk rs m.1 row → P (.d (tupN row))
abbrev N__law_forest : List Str := ["_law_feed_here", "_law_roads", "_law_message_here", "_law_known", "_law_found", "_law_turn", "_law_some", "_law_at", "_law_road"]
abbrev ps__law_forest : List Str := ["_law_feed_here", "_law_roads", "_law_message_here"]
theorem sc__law_forest : FnScope N__law_forest ps__law_forest (defScope s_law_forest) := ⟨rfl, rfl, rfl, by decide +kernel, rfl, by decide +kernel, by decide +kernel⟩
theorem nd__law_forest : N__law_forest.Nodup := sc__law_forest.nd
theorem bd__law_forest : BindH "_law_forest" "_law_forest" ps__law_forest s_law_forest := fun _ _ _ _ _ _ us hl => match us, hl with | [_, _, _], _ => rfl
theorem ok__law_forest {P : Program} {w : World} {mg : Str → Option Value} {base : Heap} {g : Gb} (c : Txt g mg base) : FOk P w g.K mg base 4 "_law_forest" ps__law_forest (spOf g S__law_forest) := by
  have tx := txt_tx c
  refine FOk.mk' (h__law_forest c) sc__law_forest bd__law_forest (by intro xs Q h; unfold S__law_forest at h; (repeat' (rcases h with ⟨_, h⟩)); subst_vars; rfl) fun cdv A outer s H E hr => ⟨_, (pss_cons (ps_asg (pe_tup (pa_cons (pe_callTy (cList g.K) (by rfl) tx.list bt_list (pa_cons (pe_ix (ixT g.K) (pv 2) pe_int (fun _ _ => rfl)) pa_nil)) (pa_cons (pe_lst pa_nil) pa_nil))) (pgT g.K 2 (pgs_cons (pg_name (i := 3) nd__law_forest rfl (Or.inr rfl)) (pgs_cons (pg_name (i := 4) nd__law_forest rfl (Or.inl rfl)) pgs_nil))))
    (pss_cons (ps_for PassesOwn.never rfl (pi_range1 rfl tx.range (pa_cons pe_int pa_nil)) (pg_name (i := 5) nd__law_forest rfl (Or.inl rfl)) (pss_cons (ps_setLc (i := 6) rfl nd__law_forest rfl rfl (sw_true rfl rfl rfl (by decide +kernel)) (piEnum g.K tx.enumerate (pa_cons (pv 1) pa_nil)) (blkOk_by (own := [("_law_at", 7), ("_law_road", 8)]) (N := N__law_forest) (sc := defScope s_law_forest) (by decide +kernel)) (fun _ _ _ _ _ => (pgT g.K 2 (pgs_cons (pg_name (i := 7) nd__law_forest rfl (Or.inl rfl)) (pgs_cons (pg_name (i := 8) nd__law_forest rfl (Or.inl rfl)) pgs_nil)))) (fun _ _ _ _ _ => (pts_one (PW.pt (pw_and (pt_cmpR op_gt (pe_ix (ixT g.K) (pv 8) pe_int (fun _ _ => rfl)) pe_int (nomark _)) (pw_and (pt_cmpR (opIn g.K) (pe_ix (ixT g.K) (pv 8) pe_int (fun _ _ => rfl)) (pv 3) (by rfl)) (pw_and1 (pt_cmpR (opNIn g.K) (pe_ix (ixT g.K) (pv 8) pe_int (fun _ _ => rfl)) (pv 3) (by rfl)))))))) (fun _ _ _ _ _ => (pv 7)))
    (pss_one (ps_if (pt_cmpR (opNeD g.K hr.units) (pv 6) (pe_lst pa_nil) (nomark _)) (pss_cons (ps_expr (pe_bm PySem.F.plainAttrs_list PySem.F.slot_list_append PySem.F.type_list_append mt_append (pv 4) (pa_cons (pe_callF (ok__law_pick c) (hr.mono (by decide)) (pa_cons (pv 0) (pa_cons (pv 6) pa_nil))) pa_nil)))
    (pss_one (ps_expr (pe_bm PySem.F.plainAttrs_list PySem.F.slot_list_append PySem.F.type_list_append mt_append (pv 3) (pa_cons (pe_ix (ixT g.K) (pe_ix (ixL g.K) (pv 1) (pe_ix (ixL g.K) (pv 4) (pe_un un_neg pe_int) (fun _ _ => rfl)) (fun _ _ => rfl)) pe_int (fun _ _ => rfl)) pa_nil))))) pss_nil))))
    (pss_one (ps_ret (pe_callTy (cTup g.K) (by rfl) tx.tuple bt_tuple (pa_cons (pe_callB (cSortedS g.K) (by rfl) tx.sorted bt_sorted (pa_cons (pv 4) pa_nil)) pa_nil)))))), ?_⟩
  rintro xs Q ⟨rs, ⟨K0, pc⟩, rfl, hrl, hK0, hQ⟩
  dsimp only at hK0
  refine sq_tup2 (a := .own (natsL K0)) (b := .own []) (el_o (ew_copy (x := .d (tupN K0)) (ds := natsL K0) (ev_ixTn (ds := [tupN K0, .int pc]) (ev_var rfl) (ev_n 0) rfl) rfl) (el_o ew_nil el_nil)) ?_
  let FoOk : List Nat → Prop := fun fo => Built rs K0 (List.range rs.length) fo ∧ (ends rs fo).Nodup ∧ (∀ v ∈ ends rs fo, v ∉ K0) ∧ ∀ a ∈ fo, a < rs.length ∧ 0 < (rd rs a).2.2
  refine st_seq (M := fun ρ => ∃ (fo : List Nat) (a b d e : Option Dx), ρ = [some .feed, some (.d (rdsD rs)), some (.d (msgD (K0, pc))), some (.own (natsL (K0 ++ ends rs fo))), some (.own (natsL fo)), a, b, d, e] ∧ FoOk fo) (st_for (it_rangeN (n := 6) (ev_n 6) (by decide))
    (fun _ i ρ => ∃ (fo : List Nat) (a b d e : Option Dx), ρ = [some .feed, some (.d (rdsD rs)), some (.d (msgD (K0, pc))), some (.own (natsL (K0 ++ ends rs fo))), some (.own (natsL fo)), a, b, d, e] ∧ FoOk fo ∧ fo.length ≤ i) ?_ ?_ ?_) ?_
  · rintro ds rfl
    exact ⟨[], none, none, none, none, (by have : ends rs [] = [] := rfl; rw [this, List.append_nil]; rfl), ⟨Built.nil, List.nodup_nil, fun v hv => (by cases hv), fun a ha => (by cases ha)⟩, Nat.zero_le _⟩
  · rintro ds i d ρ rfl hd ⟨fo, a, b, d1, e, rfl, hfo, hfl⟩
    have hel2 : (ends rs fo).length = fo.length := List.length_map _
    obtain ⟨rfl, hi⟩ := intsTo_get hd
    refine ⟨_, _, tg_d, ?_⟩
    refine sq_set (x := .d (listN ((List.range rs.length).filter fun a => decide (0 < (rd rs a).2.2) && (decide ((rd rs a).1 ∈ K0 ++ ends rs fo) && !decide ((rd rs a).2.1 ∈ K0 ++ ends rs fo))))) ((ev_lc (l := List.range rs.length) (enc := fun a : Nat => PyData.tuple [.int (a : Int), rdD (rd rs a)]) (p := fun a => decide (0 < (rd rs a).2.2) && (decide ((rd rs a).1 ∈ K0 ++ ends rs fo) && !decide ((rd rs a).2.1 ∈ K0 ++ ends rs fo))) (f := fun a : Nat => PyData.int (a : Int)) (it_enumR (l := rs) (enc := rdD) (0, 0, 0) (ev_var rfl)) (by rw [List.length_range]; omega) fun a ha =>
      ⟨_, _, tg_tup (tgs_cons tg_d (tgs_cons tg_d tgs_nil)) rfl, by decide, eb_and (eb_test (ev_gt (ev_ixTn (ds := [.int (rd rs a).1, .int (rd rs a).2.1, .int (rd rs a).2.2]) (ev_var rfl) (ev_n 2) rfl) ev_int)) fun _ => eb_and (eb_test (ev_inN (ns := K0 ++ ends rs fo) (ev_ixTn (ds := [.int (rd rs a).1, .int (rd rs a).2.1, .int (rd rs a).2.2]) (ev_var rfl) (ev_n 0) rfl) (ev_var rfl) rfl)) fun _ => eb_test (ev_ninN (ns := K0 ++ ends rs fo) (ev_ixTn (ds := [.int (rd rs a).1, .int (rd rs a).2.1, .int (rd rs a).2.2]) (ev_var rfl) (ev_n 1) rfl) (ev_var rfl) rfl), fun _ => ev_var rfl⟩).is rfl) ?_
    generalize hS : ((List.range rs.length).filter fun a => decide (0 < (rd rs a).2.2) && (decide ((rd rs a).1 ∈ K0 ++ ends rs fo) && !decide ((rd rs a).2.1 ∈ K0 ++ ends rs fo))) = S
    have hSm : ∀ a ∈ S, a < rs.length ∧ 0 < (rd rs a).2.2 ∧ (rd rs a).1 ∈ K0 ++ ends rs fo ∧ (rd rs a).2.1 ∉ K0 ++ ends rs fo := fun a ha => by
      rw [← hS] at ha
      obtain ⟨q1, q2⟩ := List.mem_filter.mp ha
      rw [Bool.and_eq_true, Bool.and_eq_true] at q2
      exact ⟨List.mem_range.mp q1, by simpa using q2.1, of_decide_eq_true q2.2.1, by have := q2.2.2; rw [Bool.not_eq_true'] at this; exact of_decide_eq_false this⟩
    have hSl : S.length ≤ 12 := by
      rw [← hS]
      refine Nat.le_trans (List.length_filter_le _ _) ?_
      rw [List.length_range]
      exact hrl
    refine st_ifB (b := !decide (S = [])) ((eb_test (ev_neD (d := listN S) (ev_var rfl) (ev_lst ed_nil) (pl_list (n := 0) (pl_nats S)).sh rfl)).is (by show (!PyData.eqv (.list (natsL S)) (.list [])) = _; rw [eqv_nil]; unfold natsL; simp)) (fun hb => ?_) fun _ => st_nx ⟨fo, _, _, _, _, rfl, hfo, by omega⟩
    have hne : S ≠ [] := by simpa using hb
    refine st_seq (M := fun ρ => ∃ a : Nat, a ∈ S ∧ ρ = [some .feed, some (.d (rdsD rs)), some (.d (msgD (K0, pc))), some (.own (natsL (K0 ++ ends rs fo))), some (.own (natsL (fo ++ [a]))), some (.d (.int (i : Int))), some (.d (listN S)), d1, e]) (st_appP rfl ((pick_nat (ev_var rfl) (ev_var rfl) hne (by omega)).imp fun x ⟨a, ex, ha⟩ => ⟨.int (a : Int), ex, by rw [natsL_length]; omega, a, ha, by rw [natsL_snoc]; rfl⟩)) ?_
    rintro ρ ⟨a, ha, rfl⟩
    obtain ⟨hal, hpos, hst, hen⟩ := hSm a ha
    have e1 : ends rs (fo ++ [a]) = ends rs fo ++ [(rd rs a).2.1] := by unfold ends; rw [List.map_append]; rfl
    refine st_app rfl (ev_ixTn (ds := [.int (rd rs a).1, .int (rd rs a).2.1, .int (rd rs a).2.2]) (ev_ixLn (ds := rdsL rs) (n := a) (ev_var rfl) (ev_ixL (ds := natsL (fo ++ [a])) (ev_var rfl) (ev_neg ev_int) rfl (natsL_last (by simp))) rfl (rd_getD hal)) (ev_n 1) rfl) (by rw [natsL_length, List.length_append]; omega) ⟨fo ++ [a], some (.d (.int (i : Int))), some (.d (listN S)), d1, e, by rw [natsL_snoc, e1, List.append_assoc]; rfl, ⟨hfo.1.snoc (List.mem_range.mpr hal) (fun z => hen (List.mem_append_right _ (List.mem_map.mpr ⟨a, z, rfl⟩))) hst, ?_, fun v hv => ?_, fun b hb => ?_⟩, by rw [List.length_append]; simp; omega⟩
    · rw [e1]
      refine List.nodup_append.mpr ⟨hfo.2.1, List.nodup_cons.mpr ⟨by simp, List.nodup_nil⟩, fun x hx y hy z => ?_⟩
      rw [List.mem_singleton.mp hy] at z
      exact hen (List.mem_append_right _ (z ▸ hx))
    · rw [e1] at hv
      rcases List.mem_append.mp hv with hv | hv
      · exact hfo.2.2.1 v hv
      · rw [List.mem_singleton.mp hv]
        exact fun z => hen (List.mem_append_left _ z)
    · rcases List.mem_append.mp hb with hb | hb
      · exact hfo.2.2.2 b hb
      · rw [List.mem_singleton.mp hb]
        exact ⟨hal, hpos⟩
  · rintro ds ρ rfl ⟨fo, a, b, d1, e, rfl, hfo, hfl⟩
    exact ⟨fo, a, b, d1, e, rfl, hfo⟩
  rintro ρ ⟨fo, a, b, d1, e, rfl, hfo⟩
  exact st_ret (ev_tupL (ds := natsL (srtN fo)) (ev_sortedN (ns := fo) (ev_var rfl) rfl) rfl) (hQ (srtN fo) (srt_row hfo.1.1 hfo.2.2.2) ((hfo.1.led hfo.2.1 hfo.2.2.1).perm (srtN_perm fo).symm))
def Cut (rs : List Road) (ms : List Msg) (e' e : Ent) : Prop := e'.1 = e.1 ∧ 1 ≤ e'.2.2 ∧ e'.2.2 ≤ e.2.2 ∧ ∃ s, e'.2.1 = srtN s ∧ Built rs (md ms e.1).1 e.2.1 s
inductive CutAll (rs : List Road) (ms : List Msg) : List Ent → List Ent → Prop
  | nil : CutAll rs ms [] []
  | skip {B es : List Ent} {e : Ent} : CutAll rs ms B es → CutAll rs ms B (es ++ [e])
  | take {B es : List Ent} {e e' : Ent} : CutAll rs ms B es → Cut rs ms e' e → CutAll rs ms (B ++ [e']) (es ++ [e])
def S__law_begun_of : SpD := fun xs P => ∃ (h : Nat) (rs : List Road) (ms : List Msg) (es : List Ent), xs = [.feed, .d (rdsD rs), .d (msgsD ms), .d (entsD es)] ∧ NewsOk h rs ms ∧ es.length ≤ 1000000 ∧ (∀ e ∈ es, e.1 < ms.length ∧ 1 ≤ e.2.2 ∧ (∀ a ∈ e.2.1, a < rs.length) ∧ e.2.1.length ≤ 100) ∧ ∀ B : List Ent, B.length ≤ 6 → CutAll rs ms B es → P (.d (entsD B))
abbrev N__law_begun_of : List Str := ["_law_feed_here", "_law_roads", "_law_messages", "_law_entries", "_law_found", "_law_number", "_law_row", "_law_times", "_law_some", "_law_known", "_law_turn", "_law_fit", "_law_one"]
abbrev ps__law_begun_of : List Str := ["_law_feed_here", "_law_roads", "_law_messages", "_law_entries"]
theorem sc__law_begun_of : FnScope N__law_begun_of ps__law_begun_of (defScope s_law_begun_of) := ⟨rfl, rfl, rfl, by decide +kernel, rfl, by decide +kernel, by decide +kernel⟩
theorem nd__law_begun_of : N__law_begun_of.Nodup := sc__law_begun_of.nd
theorem bd__law_begun_of : BindH "_law_begun_of" "_law_begun_of" ps__law_begun_of s_law_begun_of := fun _ _ _ _ _ _ us hl => match us, hl with | [_, _, _, _], _ => rfl
theorem ok__law_begun_of {P : Program} {w : World} {mg : Str → Option Value} {base : Heap} {g : Gb} (c : Txt g mg base) : FOk P w g.K mg base 4 "_law_begun_of" ps__law_begun_of (spOf g S__law_begun_of) := by
  have tx := txt_tx c
  refine FOk.mk' (h__law_begun_of c) sc__law_begun_of bd__law_begun_of (by intro xs Q h; unfold S__law_begun_of at h; (repeat' (rcases h with ⟨_, h⟩)); subst_vars; rfl) fun cdv A outer s H E hr => ⟨_, (pss_cons (ps_set (i := 4) nd__law_begun_of rfl (Or.inl rfl) (pe_lst pa_nil))
    (pss_cons (ps_for PassesOwn.never rfl (piL g.K (pv 3)) (pgT g.K 3 (pgs_cons (pg_name (i := 5) nd__law_begun_of rfl (Or.inl rfl)) (pgs_cons (pg_name (i := 6) nd__law_begun_of rfl (Or.inl rfl)) (pgs_cons (pg_name (i := 7) nd__law_begun_of rfl (Or.inl rfl)) pgs_nil)))) (pss_cons (ps_asg (pe_tup (pa_cons (pe_lst pa_nil) (pa_cons (pe_callTy (cList g.K) (by rfl) tx.list bt_list (pa_cons (pe_ix (ixT g.K) (pe_ix (ixL g.K) (pv 2) (pv 5) (fun _ _ => rfl)) pe_int (fun _ _ => rfl)) pa_nil)) pa_nil))) (pgT g.K 2 (pgs_cons (pg_name (i := 8) nd__law_begun_of rfl (Or.inr rfl)) (pgs_cons (pg_name (i := 9) nd__law_begun_of rfl (Or.inr rfl)) pgs_nil))))
    (pss_cons (ps_for PassesOwn.never rfl (pi_range1 rfl tx.range (pa_cons (pe_callF (ok__law_take c) (hr.mono (by decide)) (pa_cons (pv 0) (pa_cons (pe_op op_add (pe_callB (cLen g.K) (by rfl) tx.len bt_len (pa_cons (pv 6) pa_nil)) pe_int) pa_nil))) pa_nil)) (pg_name (i := 10) nd__law_begun_of rfl (Or.inl rfl)) (pss_cons (ps_setLc (i := 11) rfl nd__law_begun_of rfl rfl (sw_true rfl rfl rfl (by decide +kernel)) (piT g.K (pv 6)) (blkOk_by (own := [("_law_one", 12)]) (N := N__law_begun_of) (sc := defScope s_law_begun_of) (by decide +kernel)) (fun _ _ _ _ _ => (pg_name (i := 12) nd__law_begun_of rfl (Or.inl rfl))) (fun _ _ _ _ _ => (pts_one (PW.pt (pw_and (pt_cmpR (opNIn g.K) (pv 12) (pv 8) (by rfl)) (pw_and1 (pt_cmpR (opIn g.K) (pe_ix (ixT g.K) (pe_ix (ixL g.K) (pv 1) (pv 12) (fun _ _ => rfl)) pe_int (fun _ _ => rfl)) (pv 9) (by rfl))))))) (fun _ _ _ _ _ => (pv 12)))
    (pss_one (ps_if (pt_cmpR (opNeD g.K hr.units) (pv 11) (pe_lst pa_nil) (nomark _)) (pss_cons (ps_expr (pe_bm PySem.F.plainAttrs_list PySem.F.slot_list_append PySem.F.type_list_append mt_append (pv 8) (pa_cons (pe_callF (ok__law_pick c) (hr.mono (by decide)) (pa_cons (pv 0) (pa_cons (pv 11) pa_nil))) pa_nil)))
    (pss_one (ps_expr (pe_bm PySem.F.plainAttrs_list PySem.F.slot_list_append PySem.F.type_list_append mt_append (pv 9) (pa_cons (pe_ix (ixT g.K) (pe_ix (ixL g.K) (pv 1) (pe_ix (ixL g.K) (pv 8) (pe_un un_neg pe_int) (fun _ _ => rfl)) (fun _ _ => rfl)) pe_int (fun _ _ => rfl)) pa_nil))))) pss_nil))))
    (pss_one (ps_if (PW.pt (pw_and (pt_cmpR op_lt (pe_callB (cLen g.K) (by rfl) tx.len bt_len (pa_cons (pv 4) pa_nil)) pe_int (nomark _)) (pw_and1 (pt_cmpR op_gt (pe_callF (ok__law_take c) (hr.mono (by decide)) (pa_cons (pv 0) (pa_cons pe_int pa_nil))) pe_int (nomark _))))) (pss_one (ps_expr (pe_bm PySem.F.plainAttrs_list PySem.F.slot_list_append PySem.F.type_list_append mt_append (pv 4) (pa_cons (pe_tup (pa_cons (pv 5) (pa_cons (pe_callTy (cTup g.K) (by rfl) tx.tuple bt_tuple (pa_cons (pe_callB (cSortedS g.K) (by rfl) tx.sorted bt_sorted (pa_cons (pv 8) pa_nil)) pa_nil)) (pa_cons (pe_callF (ok__law_pick c) (hr.mono (by decide)) (pa_cons (pv 0) (pa_cons (pe_lst (pa_cons (pv 7) (pa_cons (pe_callB (cMax2 rfl) (by rfl) tx.max bt_max (pa_cons pe_int (pa_cons (pe_op op_fdivW (pv 7) pe_int) pa_nil))) (pa_cons pe_int pa_nil)))) pa_nil))) pa_nil)))) pa_nil)))) pss_nil)))))
    (pss_one (ps_ret (pv 4))))), ?_⟩
  rintro xs Q ⟨h, rs, ms, es, rfl, ok, hel, hes, hQ⟩
  have hh := ok.net.h6
  have hrl := ok.net.many
  refine sq_own ?_
  refine st_seq (M := fun ρ => ∃ (B : List Ent) (c5 c6 c7 c8 c9 c10 c11 c12 : Option Dx), ρ = [some .feed, some (.d (rdsD rs)), some (.d (msgsD ms)), some (.d (entsD es)), some (.own (B.map entD)), c5, c6, c7, c8, c9, c10, c11, c12] ∧ B.length ≤ 6 ∧ CutAll rs ms B es) (st_for (it_list (ds := es.map entD) (ev_var rfl))
    (fun _ i ρ => ∃ (B : List Ent) (c5 c6 c7 c8 c9 c10 c11 c12 : Option Dx), ρ = [some .feed, some (.d (rdsD rs)), some (.d (msgsD ms)), some (.d (entsD es)), some (.own (B.map entD)), c5, c6, c7, c8, c9, c10, c11, c12] ∧ B.length ≤ 6 ∧ CutAll rs ms B (es.take i)) ?_ ?_ ?_) ?_
  · rintro ds rfl
    exact ⟨[], none, none, none, none, none, none, none, none, rfl, by decide, .nil⟩
  · rintro ds i d ρ rfl hd ⟨B, c5, c6, c7, c8, c9, c10, c11, c12, rfl, hB, hC⟩
    rw [List.getElem?_map] at hd
    cases hs : es[i]? with
    | none => rw [hs] at hd; cases hd
    | some x =>
      rw [hs] at hd
      obtain ⟨n, row, t⟩ := x
      cases hd
      obtain ⟨hn, ht, hrow, hrowl⟩ := hes _ (List.mem_of_getElem? hs)
      dsimp only at hn ht hrow hrowl
      have hlot := ok.lot hn
      have hKl := hlot.len hh
      have etk : es.take (i + 1) = es.take i ++ [(n, row, t)] := by rw [List.take_add_one, hs]; rfl
      refine ⟨_, _, tg_tup (tgs_cons tg_d (tgs_cons tg_d (tgs_cons tg_d tgs_nil))) rfl, ?_⟩
      refine sq_tup2 (a := .own []) (b := .own (natsL (md ms n).1)) (el_o ew_nil (el_o (ew_copy (x := .d (tupN (md ms n).1)) (ds := natsL (md ms n).1) (ev_ixTn (ds := [tupN (md ms n).1, .int (md ms n).2]) (ev_ixLn (ds := ms.map msgD) (ev_var rfl) (ev_var rfl) rfl (md_getD hn)) (ev_n 0) rfl) rfl) el_nil)) ?_
      refine st_seq (M := fun ρ => ∃ (s : List Nat) (c10 c11 c12 : Option Dx), ρ = [some .feed, some (.d (rdsD rs)), some (.d (msgsD ms)), some (.d (entsD es)), some (.own (B.map entD)), some (.d (.int (n : Int))), some (.d (tupN row)), some (.d (.int t)), some (.own (natsL s)), some (.own (natsL ((md ms n).1 ++ ends rs s))), c10, c11, c12] ∧ Built rs (md ms n).1 row s ∧ s.length ≤ 1000) (st_for (PD := fun ds => ∃ n, ds = rangeD 0 n ∧ n ≤ 101) (itp_range1 (Pn := fun n => n ≤ 101) ((ev_take (m := row.length + 1) (ev_var rfl) ((ev_add (ev_len (ds := natsL row) (ev_var rfl) rfl) ev_int).is (by rw [natsL_length, Int.natCast_add]; rfl)) (by omega) (by omega)).imp fun x ⟨k, e, hk⟩ => ⟨k, e, by omega, by omega⟩))
        (fun ds i ρ => ∃ (s : List Nat) (c10 c11 c12 : Option Dx), ρ = [some .feed, some (.d (rdsD rs)), some (.d (msgsD ms)), some (.d (entsD es)), some (.own (B.map entD)), some (.d (.int (n : Int))), some (.d (tupN row)), some (.d (.int t)), some (.own (natsL s)), some (.own (natsL ((md ms n).1 ++ ends rs s))), c10, c11, c12] ∧ Built rs (md ms n).1 row s ∧ s.length ≤ i) ?_ ?_ ?_) ?_
      · rintro ds ⟨n', rfl, hn'⟩
        refine ⟨[], c10, c11, c12, ?_, Built.nil, Nat.le_refl _⟩
        have : ends rs [] = [] := rfl
        rw [this, List.append_nil]
        rfl
      · rintro ds j d ρ ⟨n', rfl, hn'⟩ hd2 ⟨s, c10, c11, c12, rfl, hb, hsl⟩
        obtain ⟨rfl, hj⟩ := rangeD_get hd2
        have hel2 : (ends rs s).length = s.length := List.length_map _
        refine ⟨_, _, tg_d, ?_⟩
        refine sq_set (x := .d (listN (row.filter fun a => !decide (a ∈ s) && decide ((rd rs a).1 ∈ (md ms n).1 ++ ends rs s)))) ((ev_lc (l := row) (enc := fun a : Nat => PyData.int (a : Int)) (p := fun a => !decide (a ∈ s) && decide ((rd rs a).1 ∈ (md ms n).1 ++ ends rs s)) (f := fun a : Nat => PyData.int (a : Int)) (it_tup (ev_var rfl)) (by omega) fun a ha =>
          ⟨_, _, tg_d, by decide, eb_and (eb_test (ev_ninN (ns := s) (ev_var rfl) (ev_var rfl) rfl)) fun _ => eb_test (ev_inN (ns := (md ms n).1 ++ ends rs s) (ev_ixTn (ds := [.int (rd rs a).1, .int (rd rs a).2.1, .int (rd rs a).2.2]) (ev_ixLn (ds := rdsL rs) (ev_var rfl) (ev_var rfl) rfl (rd_getD (hrow a ha))) (ev_n 0) rfl) (ev_var rfl) rfl), fun _ => ev_var rfl⟩).is rfl) ?_
        generalize hS : (row.filter fun a => !decide (a ∈ s) && decide ((rd rs a).1 ∈ (md ms n).1 ++ ends rs s)) = S
        have hSm : ∀ a ∈ S, a ∈ row ∧ a ∉ s ∧ (rd rs a).1 ∈ (md ms n).1 ++ ends rs s := fun a ha => by
          rw [← hS] at ha
          obtain ⟨q1, q2⟩ := List.mem_filter.mp ha
          rw [Bool.and_eq_true] at q2
          exact ⟨q1, by simpa using q2.1, by simpa using q2.2⟩
        have hSl : S.length ≤ 100 := by
          rw [← hS]
          exact Nat.le_trans (List.length_filter_le _ _) hrowl
        refine st_ifB (b := !decide (S = [])) ((eb_test (ev_neD (d := listN S) (ev_var rfl) (ev_lst ed_nil) (pl_list (n := 0) (pl_nats S)).sh rfl)).is (by show (!PyData.eqv (.list (natsL S)) (.list [])) = _; rw [eqv_nil]; unfold natsL; simp)) (fun hb2 => ?_) fun _ => st_nx ⟨s, _, _, _, rfl, hb, by omega⟩
        have hne : S ≠ [] := by simpa using hb2
        refine st_seq (M := fun ρ => ∃ a : Nat, a ∈ S ∧ ρ = [some .feed, some (.d (rdsD rs)), some (.d (msgsD ms)), some (.d (entsD es)), some (.own (B.map entD)), some (.d (.int (n : Int))), some (.d (tupN row)), some (.d (.int t)), some (.own (natsL (s ++ [a]))), some (.own (natsL ((md ms n).1 ++ ends rs s))), some (.d (.int (0 + (j : Int)))), some (.d (listN S)), c12]) (st_appP rfl ((pick_nat (ev_var rfl) (ev_var rfl) hne (by omega)).imp fun x ⟨a, ex, ha⟩ => ⟨.int (a : Int), ex, by rw [natsL_length]; omega, a, ha, by rw [natsL_snoc]; rfl⟩)) ?_
        rintro ρ ⟨a, ha, rfl⟩
        obtain ⟨a1, a2, a3⟩ := hSm a ha
        have hal := hrow a a1
        refine st_app rfl (ev_ixTn (ds := [.int (rd rs a).1, .int (rd rs a).2.1, .int (rd rs a).2.2]) (ev_ixLn (ds := rdsL rs) (n := a) (ev_var rfl) (ev_ixL (ds := natsL (s ++ [a])) (ev_var rfl) (ev_neg ev_int) rfl (natsL_last (by simp))) rfl (rd_getD hal)) (ev_n 1) rfl) (by rw [natsL_length, List.length_append]; omega) ⟨s ++ [a], some (.d (.int (0 + (j : Int)))), some (.d (listN S)), c12, ?_, hb.snoc a1 a2 a3, by rw [List.length_append]; simp; omega⟩
        have e1 : ends rs (s ++ [a]) = ends rs s ++ [(rd rs a).2.1] := by unfold ends; rw [List.map_append]; rfl
        rw [natsL_snoc, e1, List.append_assoc]
        rfl
      · rintro ds ρ ⟨n', rfl, hn'⟩ ⟨s, c10, c11, c12, rfl, hb, hsl⟩
        rw [rangeD_length] at hsl
        exact ⟨s, c10, c11, c12, rfl, hb, by omega⟩
      rintro ρ ⟨s, c10, c11, c12, rfl, hb, hsl⟩
      refine st_if (P1 := fun b => b = true → B.length < 6) (et_and (P1 := fun b => b = true → B.length < 6) (P2 := fun _ => True) ((eb_test (ev_lt (j := 6) ((ev_len (x := .own (B.map entD)) (ds := B.map entD) (ev_var rfl) rfl).is (by rw [List.length_map])) (ev_int (i := 6)))).imp fun b e hb => by rw [hb] at e; have := of_decide_eq_true e.symm; omega) (fun _ => et_gtI (ev_takeI (m := 4) (ev_var rfl) (ev_n 4) (by decide) (by decide)) (ev_int (i := 0)).int) (fun _ z => by cases z) fun b h1 _ _ => h1 rfl) (fun hb6 => ?_) fun _ => st_nx ⟨B, _, _, _, _, _, _, _, _, rfl, hB, by rw [etk]; exact .skip hC⟩
      have hB6 := hb6 rfl
      refine st_appP rfl (evp_tup (PD := fun ds => ∃ t' : Int, ds = [.int (n : Int), tupN (srtN s), .int t'] ∧ 1 ≤ t' ∧ t' ≤ t) ((eap_cons (ev_var (x := .d (.int (n : Int))) rfl) (eap_cons (ev_tupL (ds := natsL (srtN s)) (ev_sortedN (ns := s) (ev_var rfl) rfl) rfl) (eap_cons (ev_pick (P := fun x => ∃ t' : Int, x = .d (.int t') ∧ 1 ≤ t' ∧ t' ≤ t) (ds := [.int t, .int (if t / 2 > 1 then t / 2 else 1), .int 1]) (ev_var rfl) (ev_lst (ds := [.int t, .int (if t / 2 > 1 then t / 2 else 1), .int 1]) (ed_cons (ev_var rfl) (ed_cons (ev_max2 (i := 1) (j := t / 2) ev_int (ev_fdivW (ev_var rfl) ev_int (divW_ok (m := 2) (by decide) (by decide) t))) (ed_cons ev_int ed_nil))) (by simp)) (by simp) (by simp) fun d hd => ?_) ea_nil))).imp
        fun xs ⟨y, ys, e1, e2, y2, ys2, e3, e4, y3, ys3, e5, ⟨t', e6, h1, h2⟩, e7⟩ => ⟨[.int (n : Int), tupN (srtN s), .int t'], by rw [e1, e2, e3, e4, e5, e6, e7]; rfl, by simp, t', rfl, h1, h2⟩) fun ds ⟨t', e, h1, h2⟩ => ⟨.tuple ds, rfl, by rw [List.length_map]; omega, B ++ [(n, srtN s, t')], some (.d (.int (n : Int))), some (.d (tupN row)), some (.d (.int t)), some (.own (natsL s)), some (.own (natsL ((md ms n).1 ++ ends rs s))), c10, c11, c12, by rw [e, List.map_append]; rfl, by rw [List.length_append]; simp; omega, by rw [etk]; exact .take hC ⟨rfl, h1, h2, s, rfl, hb⟩⟩)
      simp only [List.mem_cons, List.not_mem_nil, or_false] at hd
      have hdiv : t / 2 ≤ t := by omega
      rcases hd with rfl | rfl | rfl
      · exact ⟨t, rfl, ht, Int.le_refl _⟩
      · exact ⟨_, rfl, by split <;> omega, by split <;> omega⟩
      · exact ⟨1, rfl, by decide, ht⟩
  · rintro ds ρ rfl ⟨B, c5, c6, c7, c8, c9, c10, c11, c12, rfl, hB, hC⟩
    rw [List.length_map, List.take_length] at hC
    exact ⟨B, c5, c6, c7, c8, c9, c10, c11, c12, rfl, hB, hC⟩
  rintro ρ ⟨B, c5, c6, c7, c8, c9, c10, c11, c12, rfl, hB, hC⟩
  exact st_retOwn rfl (hQ B hB hC)
end TB
set_option Elab.async false
set_option linter.all false
set_option autoImplicit false
set_option maxRecDepth 100000
set_option maxHeartbeats 4000000
namespace TB
open PySem PySem.Spec PyProof.Rows L2
section
variable {g : Gb} {ρ : Rho} {te ta tb : TE} {tt : TT} {tg : TG} {wi : TI}
/-- a comprehension that keeps nothing -/
theorem ev_lc0 {α : Type} {vs : List Nat} {l : List α} {enc : α → PyData} (hw : ItP g wi ρ (fun y => y = l.map enc)) (hlen : l.length ≤ 1000000)
    (hs : ∀ a ∈ l, ∃ js ρ1, TgP g tg (wipeR ρ vs) (.d (enc a)) js ρ1 ∧ (∀ j ∈ js, j ∈ vs) ∧ EvB g tt ρ1 false) : Ev g (tLc wi tg tt te vs) ρ (.d (.list [])) := by
  refine (ev_lc (p := fun _ => false) (f := fun _ => PyData.none) hw hlen fun a ha => ?_).is (by simp)
  obtain ⟨js, ρ1, h1, h2, h3⟩ := hs a ha
  exact ⟨js, ρ1, h1, h2, h3, fun z => by cases z⟩
theorem eb_none {K : PySem.W.Frag} (h : Ev g te ρ (.d (.list []))) : EvB g (tTest (tOp (rNeD K) te (tLst tNil))) ρ false := (eb_test (ev_neD h (ev_lst ed_nil) rfl rfl)).is rfl
theorem ev_none {K : PySem.W.Frag} (h : Ev g te ρ (.d (.list []))) : Ev g (tOp (rEqD K) te (tLst tNil)) ρ (.d (.bool true)) := (ev_eqD h (ev_lst ed_nil) rfl rfl).is rfl
def reprS (i : Int) : Str := toString i
theorem ev_reprI {i : Int} (ha : Ev g ta ρ (.d (.int i))) (hi : i.natAbs < 1000000) : Ev g (tCB (fun xs H Q => ∃ i, xs = [.int i] ∧ i.natAbs.log2 < 1920 ∧ Q (.str (toString i)) H) (tCons ta tNil)) ρ (.d (.str (reprS i))) :=
  evp_cb1 ha fun e σ F H v a E xa pa Q q => by
    subst pa
    refine ⟨i, by rw [Dq.int_eq xa], ?_, q _ F H _ (Gr.refl E.wl) (rx_d (Dq.str _)) rfl⟩
    by_cases h0 : i.natAbs = 0
    · rw [h0]; decide
    · rw [Nat.log2_lt h0]
      exact Nat.lt_of_lt_of_le hi (Nat.le_trans (by decide : 1000000 ≤ 2 ^ 20) (Nat.pow_le_pow_right (by decide) (by decide)))
theorem flat_strs : ∀ ns : List Str, (ns.map V.str).all flatV = true
  | [] => rfl
  | n :: ns => by rw [List.map_cons, List.all_cons, flat_strs ns]; rfl
theorem inV_str {s : Str} {ns : List Str} (h : s ∈ ns) : inV (.str s) (ns.map V.str) = true := by
  unfold inV
  rw [List.any_eq_true]
  exact ⟨.str s, List.mem_map.mpr ⟨s, h, rfl⟩, by simp [eqV]⟩
theorem ev_ninS {K : PySem.W.Frag} {s : Str} {ns : List Str} (ha : Ev g ta ρ (.d (.str s))) (hb : Ev g tb ρ (.d (.list (ns.map PyData.str)))) (h : s ∈ ns) : Ev g (tOp (rIn K true) ta tb) ρ (.d (.bool false)) :=
  ev_op2 ha hb fun e σ F H v w a b E xa xb pa pb Q q => by
    subst pa pb
    rw [Dq.str_eq xa]
    obtain ⟨l, vs, rfl, hl, hq⟩ := Dq.lst_of xb
    rw [hq.strs'] at hl
    refine ⟨l, ns.map V.str, rfl, .inl (SqL.of (E.wl.same _ _ hl)), rfl, flat_strs ns, ?_⟩
    show Q (.bl (!inV (.str s) (ns.map V.str))) H
    rw [inV_str h]
    exact q _ F H _ (Gr.refl E.wl) (rx_d (Dq.bl _)) rfl
end
theorem sset_of_lt {l : List Nat} (h : l.Pairwise (· < ·)) (hb : ∀ n ∈ l, n < 60) : sset l = l := lt_sortedN_eq (sset_lt l) h fun k => mem_sset hb
def S__law_is_row : SpD := fun xs P => ∃ (rs : List Road) (row : List Nat), xs = [.d (rdsD rs), .d (tupN row)] ∧ RowOk rs row ∧ rs.length ≤ 12 ∧ P (.d (.bool true))
abbrev N__law_is_row : List Str := ["_law_roads", "_law_value", "_law_one"]
abbrev ps__law_is_row : List Str := ["_law_roads", "_law_value"]
theorem sc__law_is_row : FnScope N__law_is_row ps__law_is_row (defScope s_law_is_row) := ⟨rfl, rfl, rfl, by decide +kernel, rfl, by decide +kernel, by decide +kernel⟩
theorem nd__law_is_row : N__law_is_row.Nodup := sc__law_is_row.nd
theorem bd__law_is_row : BindH "_law_is_row" "_law_is_row" ps__law_is_row s_law_is_row := fun _ _ _ _ _ _ us hl => match us, hl with | [_, _], _ => rfl
theorem ok__law_is_row {P : Program} {w : World} {mg : Str → Option Value} {base : Heap} {g : Gb} (c : Txt g mg base) : FOk P w g.K mg base 3 "_law_is_row" ps__law_is_row (spOf g S__law_is_row) := by
  have tx := txt_tx c
  refine FOk.mk' (h__law_is_row c) sc__law_is_row bd__law_is_row (by intro xs Q h; unfold S__law_is_row at h; (repeat' (rcases h with ⟨_, h⟩)); subst_vars; rfl) fun cdv A outer s H E hr => ⟨_, (pss_cons (ps_if (pt_not (pt_val (pe_callB (cIsi g.K) (by rfl) tx.isinstance bt_isinstance (pa_cons (pv 1) (pa_cons (pe_bltn (v := .ty "tuple") (by rfl) tx.tuple bt_tuple rfl) pa_nil))))) (pss_one (ps_ret pe_bl)) pss_nil)
    (pss_cons (ps_if (pt_cmpR (opNeD g.K hr.units) (pe_lc rfl nd__law_is_row (piT g.K (pv 1)) (blkOk_by (own := [("_law_one", 2)]) (N := N__law_is_row) (sc := defScope s_law_is_row) (by decide +kernel)) (fun _ _ _ _ _ => (pg_name (i := 2) nd__law_is_row rfl (Or.inl rfl))) (fun _ _ _ _ _ => (pts_one (PW.pt (pw_or (pt_not (pt_val (pe_callB (cIsi g.K) (by rfl) tx.isinstance bt_isinstance (pa_cons (pv 2) (pa_cons (pe_bltn (v := .ty "int") (by rfl) tx.int bt_int rfl) pa_nil))))) (pw_or1 (pt_val (pe_callB (cIsi g.K) (by rfl) tx.isinstance bt_isinstance (pa_cons (pv 2) (pa_cons (pe_bltn (v := .ty "bool") (by rfl) tx.bool bt_bool rfl) pa_nil))))))))) (fun _ _ _ _ _ => (pv 2))) (pe_lst pa_nil) (nomark _)) (pss_one (ps_ret pe_bl)) pss_nil)
    (pss_cons (ps_if (PW.pt (pw_or (pt_cmpR (opNeD g.K hr.units) (pv 1) (pe_callTy (cTup g.K) (by rfl) tx.tuple bt_tuple (pa_cons (pe_sortSetS g.K (by rfl) tx.sorted (by rfl) tx.set (pv 1)) pa_nil)) (nomark _)) (pw_or1 (pt_cmpR (opNeD g.K hr.units) (pe_lc rfl nd__law_is_row (piT g.K (pv 1)) (blkOk_by (own := [("_law_one", 2)]) (N := N__law_is_row) (sc := defScope s_law_is_row) (by decide +kernel)) (fun _ _ _ _ _ => (pg_name (i := 2) nd__law_is_row rfl (Or.inl rfl))) (fun _ _ _ _ _ => (pts_one (pt_not (pt_chain op_le op_lt pe_int (pv 2) (pe_callB (cLen g.K) (by rfl) tx.len bt_len (pa_cons (pv 0) pa_nil)))))) (fun _ _ _ _ _ => (pv 2))) (pe_lst pa_nil) (nomark _))))) (pss_one (ps_ret pe_bl)) pss_nil)
    (pss_one (ps_ret (pe_cmpR (opEqD g.K hr.units) (pe_lc rfl nd__law_is_row (piT g.K (pv 1)) (blkOk_by (own := [("_law_one", 2)]) (N := N__law_is_row) (sc := defScope s_law_is_row) (by decide +kernel)) (fun _ _ _ _ _ => (pg_name (i := 2) nd__law_is_row rfl (Or.inl rfl))) (fun _ _ _ _ _ => (pts_one (pt_cmpR op_eq (pe_ix (ixT g.K) (pe_ix (ixL g.K) (pv 0) (pv 2) (fun _ _ => rfl)) pe_int (fun _ _ => rfl)) pe_int (nomark _)))) (fun _ _ _ _ _ => (pv 2))) (pe_lst pa_nil) (nomark _))))))), ?_⟩
  rintro xs Q ⟨rs, row, rfl, hr, hl, hQ⟩
  have hrl := hr.len
  refine sq_no (eb_not (eb_test (ev_isi (ev_var rfl) rfl rfl))) rfl ?_
  refine sq_no (eb_none (ev_lc0 (l := row) (enc := fun a : Nat => PyData.int (a : Int)) (it_tup (ev_var rfl)) (by omega) fun a ha => ⟨_, _, tg_d, by decide, (eb_or (eb_not (eb_test (ev_isi (x := .d (.int (a : Int))) (ev_var rfl) rfl rfl))) fun _ => eb_test (ev_isi (x := .d (.int (a : Int))) (ev_var rfl) rfl rfl)).is rfl⟩)) rfl ?_
  refine sq_no (b := false) ((eb_or (a := false) ((eb_test (ev_neD (d := tupN row) (ev_var rfl) (ev_tupL (ds := natsL (sset row)) (ev_sortSetN (ns := row) (ev_var rfl) rfl (fun n hn => by have := (hr.2 n hn).1; omega) (by omega)) rfl) (pl_tupN row).sh (pl_tupN _).sh)).is (by rw [sset_of_lt hr.1 (fun n hn => by have := (hr.2 n hn).1; omega)]; show (!PyData.eqv (tupN row) (tupN row)) = false; rw [eqv_tupN]; simp)) fun _ => eb_none (ev_lc0 (l := row) (enc := fun a : Nat => PyData.int (a : Int)) (it_tup (ev_var rfl)) (by omega) fun a ha => ⟨_, _, tg_d, by decide, (eb_not (eb_test (ev_chainI (f := fun i j => decide (i ≤ j)) (f' := fun i j => decide (i < j)) ev_int (ev_var rfl) (ev_len (ds := rdsL rs) (ev_var rfl) rfl) (fun _ _ => rfl) fun _ _ => rfl))).is ?_⟩))) rfl ?_
  · have h1 := (hr.2 a ha).1
    have h2 : (rdsL rs).length = rs.length := List.length_map _
    rw [h2]
    simp
    omega
  · refine st_ret (ev_none (ev_lc0 (l := row) (enc := fun a : Nat => PyData.int (a : Int)) (it_tup (ev_var rfl)) (by omega) fun a ha => ⟨_, _, tg_d, by decide, (eb_test (ev_eqI (ev_ixTn (ds := [.int (rd rs a).1, .int (rd rs a).2.1, .int (rd rs a).2.2]) (ev_ixLn (ds := rdsL rs) (ev_var rfl) (ev_var rfl) rfl (rd_getD (hr.2 a ha).1)) (ev_n 2) rfl) ev_int)).is ?_⟩)) hQ
    have := (hr.2 a ha).2
    exact decide_eq_false (by omega)
def S__law_is_led : SpD := fun xs P => ∃ (h : Nat) (rs : List Road) (m : Msg) (row : List Nat), xs = [.d (rdsD rs), .d (msgD m), .d (tupN row)] ∧ NetOk h rs ∧ LotOk h m.1 ∧ RowOk rs row ∧ LedOk rs m.1 row ∧ P (.d (.bool true))
theorem led_row_all {h : Nat} {rs : List Road} {K row : List Nat} (nok : NetOk h rs) (hlot : LotOk h K) (hr : RowOk rs row) (hle : LedOk rs K row) : heardL (row.map (rd rs)) K = srtN (ends rs row ++ K) := by
  have hh := nok.h6
  have e1 : pos (row.map (rd rs)) = eds rs row := by
    unfold pos eds
    rw [List.filter_eq_self.mpr fun r hr2 => ?_, List.map_map]
    · rfl
    · obtain ⟨a, ha, rfl⟩ := List.mem_map.mp hr2
      exact decide_eq_true (hr.2 a ha).2
  unfold heardL
  rw [e1]
  refine (srtN_is ?_ (led_lt _ _) fun v => ?_).symm
  · exact List.nodup_append.mpr ⟨hle.1, hlot.nd, fun a ha b hb e => hle.2.1 a ha (by rw [e]; exact hb)⟩
  · rw [led_row nok hlot hr hle, List.mem_append, or_comm]
abbrev N__law_is_led : List Str := ["_law_roads", "_law_message_here", "_law_value", "_law_ends", "_law_one", "_law_end"]
abbrev ps__law_is_led : List Str := ["_law_roads", "_law_message_here", "_law_value"]
theorem sc__law_is_led : FnScope N__law_is_led ps__law_is_led (defScope s_law_is_led) := ⟨rfl, rfl, rfl, by decide +kernel, rfl, by decide +kernel, by decide +kernel⟩
theorem nd__law_is_led : N__law_is_led.Nodup := sc__law_is_led.nd
theorem bd__law_is_led : BindH "_law_is_led" "_law_is_led" ps__law_is_led s_law_is_led := fun _ _ _ _ _ _ us hl => match us, hl with | [_, _, _], _ => rfl
theorem ok__law_is_led {P : Program} {w : World} {mg : Str → Option Value} {base : Heap} {g : Gb} (c : Txt g mg base) : FOk P w g.K mg base 3 "_law_is_led" ps__law_is_led (spOf g S__law_is_led) := by
  have tx := txt_tx c
  refine FOk.mk' (h__law_is_led c) sc__law_is_led bd__law_is_led (by intro xs Q h; unfold S__law_is_led at h; (repeat' (rcases h with ⟨_, h⟩)); subst_vars; rfl) fun cdv A outer s H E hr => ⟨_, (pss_cons (ps_setLc (i := 3) rfl nd__law_is_led rfl rfl (sw_true rfl rfl rfl (by decide +kernel)) (piT g.K (pv 2)) (blkOk_by (own := [("_law_one", 4)]) (N := N__law_is_led) (sc := defScope s_law_is_led) (by decide +kernel)) (fun _ _ _ _ _ => (pg_name (i := 4) nd__law_is_led rfl (Or.inl rfl))) (fun _ _ _ _ _ => pts_nil) (fun _ _ _ _ _ => (pe_ix (ixT g.K) (pe_ix (ixL g.K) (pv 0) (pv 4) (fun _ _ => rfl)) pe_int (fun _ _ => rfl))))
    (pss_cons (ps_if (PW.pt (pw_or (pt_cmpR op_ne (pe_lenSetS g.K (by rfl) tx.len (by rfl) tx.set (pv 3)) (pe_callB (cLen g.K) (by rfl) tx.len bt_len (pa_cons (pv 3) pa_nil)) (nomark _)) (pw_or1 (pt_cmpR (opNeD g.K hr.units) (pe_lc rfl nd__law_is_led (piL g.K (pv 3)) (blkOk_by (own := [("_law_end", 5)]) (N := N__law_is_led) (sc := defScope s_law_is_led) (by decide +kernel)) (fun _ _ _ _ _ => (pg_name (i := 5) nd__law_is_led rfl (Or.inl rfl))) (fun _ _ _ _ _ => (pts_one (pt_cmpR (opIn g.K) (pv 5) (pe_ix (ixT g.K) (pv 1) pe_int (fun _ _ => rfl)) (by rfl)))) (fun _ _ _ _ _ => (pv 5))) (pe_lst pa_nil) (nomark _))))) (pss_one (ps_ret pe_bl)) pss_nil)
    (pss_one (ps_ret (pe_cmpR (opEqD g.K hr.units) (pe_callF (ok__law_led c) (hr.mono (by decide)) (pa_cons (pe_lc rfl nd__law_is_led (piT g.K (pv 2)) (blkOk_by (own := [("_law_one", 4)]) (N := N__law_is_led) (sc := defScope s_law_is_led) (by decide +kernel)) (fun _ _ _ _ _ => (pg_name (i := 4) nd__law_is_led rfl (Or.inl rfl))) (fun _ _ _ _ _ => pts_nil) (fun _ _ _ _ _ => (pe_ix (ixL g.K) (pv 0) (pv 4) (fun _ _ => rfl)))) (pa_cons (pe_ix (ixT g.K) (pv 1) pe_int (fun _ _ => rfl)) pa_nil))) (pe_callTy (cTup g.K) (by rfl) tx.tuple bt_tuple (pa_cons (pe_callB (cSortedS g.K) (by rfl) tx.sorted bt_sorted (pa_cons (pe_op op_cat (pv 3) (pe_callTy (cList g.K) (by rfl) tx.list bt_list (pa_cons (pe_ix (ixT g.K) (pv 1) pe_int (fun _ _ => rfl)) pa_nil))) pa_nil)) pa_nil)) (nomark _)))))), ?_⟩
  rintro xs Q ⟨h, rs, ⟨K, pc⟩, row, rfl, nok, hlot, hr, hle, hQ⟩
  dsimp only at hlot hle
  have hh := nok.h6
  have hrl := hr.len
  have hm := nok.many
  have hKl := hlot.len hh
  have hel : (ends rs row).length = row.length := List.length_map _
  refine sq_set (x := .d (listN (ends rs row))) (ev_ends rfl (ev_var rfl) (by decide) (by show 4 < 6; decide) (fun a ha => (hr.2 a ha).1) (by omega)) ?_
  refine sq_no (eb_or (a := false) ((eb_test (ev_neN (ev_lenSetN (ns := ends rs row) (ev_var rfl) rfl hle.1 (by omega)) ((ev_len (ds := natsL (ends rs row)) (ev_var rfl) rfl).is (by rw [natsL_length])))).is (by simp)) fun _ => eb_none (ev_lc0 (l := ends rs row) (enc := fun a : Nat => PyData.int (a : Int)) (it_list (ev_var rfl)) (by omega) fun v hv => ⟨_, _, tg_d, by decide, (eb_test (ev_inN (ns := K) (ev_var rfl) (ev_ixTn (ds := [tupN K, .int pc]) (ev_var rfl) (ev_n 0) rfl) rfl)).is (decide_eq_false (hle.2.1 v hv))⟩)) rfl ?_
  refine st_ret (x := .d (.bool true)) ((ev_eqD (d := tupN (srtN (ends rs row ++ K))) (d' := tupN (srtN (ends rs row ++ K))) ((lled_call (rs := row.map (rd rs)) (l := K) (d := tupN K) ((ev_lcA (l := row) (enc := fun a : Nat => PyData.int (a : Int)) (f := fun a : Nat => rdD (rd rs a)) (it_tup (ev_var rfl)) (by omega) fun a ha => ⟨_, _, tg_d, by decide, ev_ixLn (ds := rdsL rs) (ev_var rfl) (ev_var rfl) rfl (rd_getD (hr.2 a ha).1)⟩).is (by unfold rdsD; rw [List.map_map]; rfl)) (ev_ixTn (ds := [tupN K, .int pc]) (ev_var rfl) (ev_n 0) rfl) rfl (fun r hr2 => ?_) (fun v hv => by have := hlot.2.2 v hv; omega) (by rw [List.length_map]; omega) (by omega)).is (by rw [led_row_all nok hlot hr hle]))
    (ev_tupL (ds := natsL (srtN (ends rs row ++ K))) (ev_sortedN (ns := ends rs row ++ K) (ev_cat (ds := natsL (ends rs row)) (es := natsL K) (ev_var rfl) (ev_listS (ds := natsL K) (ev_ixTn (ds := [tupN K, .int pc]) (ev_var rfl) (ev_n 0) rfl) rfl) rfl rfl (by rw [natsL_length, natsL_length]; omega)) (by show some (natsL (ends rs row) ++ natsL K) = _; unfold natsL; rw [List.map_append])) rfl) (pl_tupN _).sh (pl_tupN _).sh).is (by rw [eqv_tupN]; simp)) hQ
  obtain ⟨a, ha, rfl⟩ := List.mem_map.mp hr2
  have := (nok.road _ (rd_mem (hr.2 a ha).1)).2.1
  omega
theorem lis_row {g : Gb} {ta tb : TE} {ρ : Rho} {rs : List Road} {row : List Nat} (ha : Ev g ta ρ (.d (rdsD rs))) (hb : Ev g tb ρ (.d (tupN row))) (hr : RowOk rs row) (hl : rs.length ≤ 12) : Ev g (tCall (spOf g S__law_is_row) [] E0 (tCons ta (tCons tb tNil))) ρ (.d (.bool true)) := ev_call (ea_cons ha (ea_cons hb ea_nil)) ⟨rs, row, rfl, hr, hl, rfl⟩
theorem lis_led {g : Gb} {ta tb tc : TE} {ρ : Rho} {h : Nat} {rs : List Road} {m : Msg} {row : List Nat} (ha : Ev g ta ρ (.d (rdsD rs))) (hb : Ev g tb ρ (.d (msgD m))) (hc : Ev g tc ρ (.d (tupN row))) (nok : NetOk h rs) (hlot : LotOk h m.1) (hr : RowOk rs row) (hle : LedOk rs m.1 row) : Ev g (tCall (spOf g S__law_is_led) [] E0 (tCons ta (tCons tb (tCons tc tNil)))) ρ (.d (.bool true)) := ev_call (ea_cons ha (ea_cons hb (ea_cons hc ea_nil))) ⟨h, rs, m, row, rfl, nok, hlot, hr, hle, rfl⟩
def S__law_is_forest : SpD := fun xs P => ∃ (h : Nat) (rs : List Road) (m : Msg) (row : List Nat), xs = [.d (rdsD rs), .d (msgD m), .d (tupN row)] ∧ NetOk h rs ∧ LotOk h m.1 ∧ ForOk rs m.1 row ∧ P (.d (.bool true))
theorem for_len {h : Nat} {rs : List Road} {K row : List Nat} (nok : NetOk h rs) (hlot : LotOk h K) (f : ForOk rs K row) : (heardL rs K).length = row.length + K.length := by
  obtain ⟨hr, hle, hall⟩ := f
  have hh := nok.h6
  have pm : (heardL rs K).Perm (ends rs row ++ K) := by
    refine (List.perm_ext_iff_of_nodup ((led_lt _ _).imp fun h => Nat.ne_of_lt h) ?_).mpr fun v => ?_
    · exact List.nodup_append.mpr ⟨hle.1, hlot.nd, fun a ha b hb e => hle.2.1 a ha (by rw [e]; exact hb)⟩
    · rw [List.mem_append]
      refine ⟨fun hv => (hall v hv).symm, fun hv => ?_⟩
      rw [mem_led]
      rcases hv with hv | hv
      · refine ⟨?_, (hle.2.2 v hv).mono fun e he => ?_⟩
        · obtain ⟨a, ha, rfl⟩ := List.mem_map.mp hv
          have := (nok.road _ (rd_mem (hr.2 a ha).1)).2.1
          omega
        · obtain ⟨a, ha, rfl⟩ := List.mem_map.mp he
          exact List.mem_map.mpr ⟨rd rs a, List.mem_filter.mpr ⟨rd_mem (hr.2 a ha).1, decide_eq_true (hr.2 a ha).2⟩, rfl⟩
      · exact ⟨by have := hlot.2.2 v hv; omega, .base hv⟩
  rw [pm.length_eq, List.length_append]
  unfold ends
  rw [List.length_map]
abbrev N__law_is_forest : List Str := ["_law_roads", "_law_message_here", "_law_value"]
abbrev ps__law_is_forest : List Str := ["_law_roads", "_law_message_here", "_law_value"]
theorem sc__law_is_forest : FnScope N__law_is_forest ps__law_is_forest (defScope s_law_is_forest) := ⟨rfl, rfl, rfl, by decide +kernel, rfl, by decide +kernel, by decide +kernel⟩
theorem nd__law_is_forest : N__law_is_forest.Nodup := sc__law_is_forest.nd
theorem bd__law_is_forest : BindH "_law_is_forest" "_law_is_forest" ps__law_is_forest s_law_is_forest := fun _ _ _ _ _ _ us hl => match us, hl with | [_, _, _], _ => rfl
theorem ok__law_is_forest {P : Program} {w : World} {mg : Str → Option Value} {base : Heap} {g : Gb} (c : Txt g mg base) : FOk P w g.K mg base 4 "_law_is_forest" ps__law_is_forest (spOf g S__law_is_forest) := by
  have tx := txt_tx c
  refine FOk.mk' (h__law_is_forest c) sc__law_is_forest bd__law_is_forest (by intro xs Q h; unfold S__law_is_forest at h; (repeat' (rcases h with ⟨_, h⟩)); subst_vars; rfl) fun cdv A outer s H E hr => ⟨_, (pss_cons (ps_if (PW.pt (pw_or (pt_not (pt_val (pe_callF (ok__law_is_row c) (hr.mono (by decide)) (pa_cons (pv 0) (pa_cons (pv 2) pa_nil))))) (pw_or1 (pt_not (pt_val (pe_callF (ok__law_is_led c) (hr.mono (by decide)) (pa_cons (pv 0) (pa_cons (pv 1) (pa_cons (pv 2) pa_nil))))))))) (pss_one (ps_ret pe_bl)) pss_nil)
    (pss_one (ps_ret (pe_cmpR op_eq (pe_callB (cLen g.K) (by rfl) tx.len bt_len (pa_cons (pv 2) pa_nil)) (pe_op op_sub (pe_callB (cLen g.K) (by rfl) tx.len bt_len (pa_cons (pe_callF (ok__law_led c) (hr.mono (by decide)) (pa_cons (pv 0) (pa_cons (pe_ix (ixT g.K) (pv 1) pe_int (fun _ _ => rfl)) pa_nil))) pa_nil)) (pe_callB (cLen g.K) (by rfl) tx.len bt_len (pa_cons (pe_ix (ixT g.K) (pv 1) pe_int (fun _ _ => rfl)) pa_nil))) (nomark _))))), ?_⟩
  rintro xs Q ⟨h, rs, ⟨K, pc⟩, row, rfl, nok, hlot, hf, hQ⟩
  dsimp only at hlot hf
  have hh := nok.h6
  have hrl := hf.1.len
  have hm := nok.many
  have hKl := hlot.len hh
  have hlen := for_len nok hlot hf
  refine sq_no (eb_or (eb_not (eb_test (lis_row (ev_var rfl) (ev_var rfl) hf.1 hm))) fun _ => eb_not (eb_test (lis_led (m := (K, pc)) (ev_var rfl) (ev_var rfl) (ev_var rfl) nok hlot hf.1 hf.2.1))) rfl ?_
  refine st_ret ((ev_eqI ((ev_len (ds := natsL row) (ev_var rfl) rfl).is (by rw [natsL_length])) (ev_sub ((ev_len (ds := natsL (heardL rs K)) (lled_call (d := tupN K) (ev_var rfl) (ev_ixTn (ds := [tupN K, .int pc]) (ev_var rfl) (ev_n 0) rfl) rfl (fun r hr => by have := (nok.road r hr).2.1; omega) (fun v hv => by have := hlot.2.2 v hv; omega) (by omega) (by omega)) rfl).is (by rw [natsL_length, hlen])) ((ev_len (ds := natsL K) (ev_ixTn (ds := [tupN K, .int pc]) (ev_var rfl) (ev_n 0) rfl) rfl).is (by rw [natsL_length])))).is (by rw [decide_eq_true (show ((row.length : Int)) = ((row.length + K.length : Nat) : Int) - (K.length : Int) by omega)])) hQ
end TB
set_option Elab.async false
set_option linter.all false
set_option autoImplicit false
set_option maxRecDepth 100000
set_option maxHeartbeats 4000000
namespace TB
open PySem PySem.Spec PyProof.Rows L2
def S__law_is_entry : SpD := fun xs P => ∃ (n : Nat) (e : Ent), xs = [.d (.int (n : Int)), .d (entD e)] ∧ e.1 < n ∧ n ≤ 1000 ∧ 1 ≤ e.2.2 ∧ P (.d (.bool true))
abbrev N__law_is_entry : List Str := ["_law_many", "_law_value", "_law_one"]
abbrev ps__law_is_entry : List Str := ["_law_many", "_law_value"]
theorem sc__law_is_entry : FnScope N__law_is_entry ps__law_is_entry (defScope s_law_is_entry) := ⟨rfl, rfl, rfl, by decide +kernel, rfl, by decide +kernel, by decide +kernel⟩
theorem nd__law_is_entry : N__law_is_entry.Nodup := sc__law_is_entry.nd
theorem bd__law_is_entry : BindH "_law_is_entry" "_law_is_entry" ps__law_is_entry s_law_is_entry := fun _ _ _ _ _ _ us hl => match us, hl with | [_, _], _ => rfl
theorem ok__law_is_entry {P : Program} {w : World} {mg : Str → Option Value} {base : Heap} {g : Gb} (c : Txt g mg base) : FOk P w g.K mg base 3 "_law_is_entry" ps__law_is_entry (spOf g S__law_is_entry) := by
  have tx := txt_tx c
  refine FOk.mk' (h__law_is_entry c) sc__law_is_entry bd__law_is_entry (by intro xs Q h; unfold S__law_is_entry at h; (repeat' (rcases h with ⟨_, h⟩)); subst_vars; rfl) fun cdv A outer s H E hr => ⟨_, (pss_cons (ps_if (PW.pt (pw_or (pt_not (pt_val (pe_callB (cIsi g.K) (by rfl) tx.isinstance bt_isinstance (pa_cons (pv 1) (pa_cons (pe_bltn (v := .ty "tuple") (by rfl) tx.tuple bt_tuple rfl) pa_nil))))) (pw_or (pt_cmpR op_ne (pe_callB (cLen g.K) (by rfl) tx.len bt_len (pa_cons (pv 1) pa_nil)) pe_int (nomark _)) (pw_or1 (pt_cmpR (opNIn g.K) (pe_callB cReprI (by rfl) tx.repr bt_repr (pa_cons (pe_ix (ixT g.K) (pv 1) pe_int (fun _ _ => rfl)) pa_nil)) (pe_lc rfl nd__law_is_entry (pi_range1 rfl tx.range (pa_cons (pv 0) pa_nil)) (blkOk_by (own := [("_law_one", 2)]) (N := N__law_is_entry) (sc := defScope s_law_is_entry) (by decide +kernel)) (fun _ _ _ _ _ => (pg_name (i := 2) nd__law_is_entry rfl (Or.inl rfl))) (fun _ _ _ _ _ => pts_nil) (fun _ _ _ _ _ => (pe_callB cReprI (by rfl) tx.repr bt_repr (pa_cons (pv 2) pa_nil)))) (by rfl)))))) (pss_one (ps_ret pe_bl)) pss_nil)
    (pss_one (ps_ret (pe_and (pe_callB (cIsi g.K) (by rfl) tx.isinstance bt_isinstance (pa_cons (pe_ix (ixT g.K) (pv 1) pe_int (fun _ _ => rfl)) (pa_cons (pe_bltn (v := .ty "int") (by rfl) tx.int bt_int rfl) pa_nil))) (pe_and (pe_not (pe_callB (cIsi g.K) (by rfl) tx.isinstance bt_isinstance (pa_cons (pe_ix (ixT g.K) (pv 1) pe_int (fun _ _ => rfl)) (pa_cons (pe_bltn (v := .ty "bool") (by rfl) tx.bool bt_bool rfl) pa_nil)))) (pe_one (pe_cmpR op_gt (pe_ix (ixT g.K) (pv 1) pe_int (fun _ _ => rfl)) pe_int (nomark _)))))))), ?_⟩
  rintro xs Q ⟨n, ⟨k, row, t⟩, rfl, hk, hn, ht, hQ⟩
  dsimp only at hk ht
  have in1 : Ev g (tVar 1) (startR N__law_is_entry [.d (.int (n : Int)), .d (entD (k, row, t))]) (.d (.tuple [.int (k : Int), tupN row, .int t])) := ev_var rfl
  refine sq_no (b := false) ((eb_or (eb_not (eb_test (ev_isi in1 rfl rfl))) fun _ => eb_or (eb_test (ev_neN (ev_len in1 rfl) (ev_n 3))) fun _ => eb_test (ev_ninS (s := reprS (k : Int)) (ns := (List.range n).map fun i : Nat => reprS (i : Int)) (ev_reprI (ev_ixTn in1 (ev_n 0) rfl) (by rw [Int.natAbs_natCast]; omega)) ((ev_lcA (l := List.range n) (enc := fun i : Nat => PyData.int (i : Int)) (f := fun i : Nat => PyData.str (reprS (i : Int))) (it_rangeN (ev_var rfl) (by omega)) (by rw [List.length_range]; omega) fun i hi => ⟨_, _, tg_d, by decide, ev_reprI (ev_var rfl) (by rw [Int.natAbs_natCast]; have := List.mem_range.mp hi; omega)⟩).is (by rw [List.map_map]; rfl)) (List.mem_map.mpr ⟨k, List.mem_range.mpr hk, rfl⟩))).is rfl) rfl ?_
  refine st_ret ((ev_andV (ev_isi (b := true) (ev_ixTn in1 (ev_n 2) rfl) rfl rfl) fun _ => ev_andV (ev_notV (ev_isi (b := false) (ev_ixTn in1 (ev_n 2) rfl) rfl rfl)) fun _ => ev_gt (ev_ixTn in1 (ev_n 2) rfl) ev_int).is (by rw [decide_eq_true (show 0 < t by omega)]; rfl)) hQ
theorem lis_entry {g : Gb} {ta tb : TE} {ρ : Rho} {n : Nat} {e : Ent} (ha : Ev g ta ρ (.d (.int (n : Int)))) (hb : Ev g tb ρ (.d (entD e))) (h1 : e.1 < n) (h2 : n ≤ 1000) (h3 : 1 ≤ e.2.2) : Ev g (tCall (spOf g S__law_is_entry) [] E0 (tCons ta (tCons tb tNil))) ρ (.d (.bool true)) := ev_call (ea_cons ha (ea_cons hb ea_nil)) ⟨n, e, rfl, h1, h2, h3, rfl⟩
def S__law_bear : SpD := fun xs P => ∃ (rs : List Road) (rows : List Rwx), xs = [.d (rdsD rs), .d (rowsD rows)] ∧ rows.length ≤ 1000000 ∧ ∀ b : Bool, (b = true ↔ Bear rs rows) → P (.d (.bool b))
abbrev N__law_bear : List Str := ["_law_roads", "_law_rows_here", "_law_at", "_law_road", "_law_row", "_law_times"]
abbrev ps__law_bear : List Str := ["_law_roads", "_law_rows_here"]
theorem sc__law_bear : FnScope N__law_bear ps__law_bear (defScope s_law_bear) := ⟨rfl, rfl, rfl, by decide +kernel, rfl, by decide +kernel, by decide +kernel⟩
theorem nd__law_bear : N__law_bear.Nodup := sc__law_bear.nd
theorem bd__law_bear : BindH "_law_bear" "_law_bear" ps__law_bear s_law_bear := fun _ _ _ _ _ _ us hl => match us, hl with | [_, _], _ => rfl
theorem ok__law_bear {P : Program} {w : World} {mg : Str → Option Value} {base : Heap} {g : Gb} (c : Txt g mg base) : FOk P w g.K mg base 1 "_law_bear" ps__law_bear (spOf g S__law_bear) := by
  have tx := txt_tx c
  refine FOk.mk' (h__law_bear c) sc__law_bear bd__law_bear (by intro xs Q h; unfold S__law_bear at h; (repeat' (rcases h with ⟨_, h⟩)); subst_vars; rfl) fun cdv A outer s H E hr => ⟨_, (pss_cons (ps_for PassesOwn.never rfl (piEnum g.K tx.enumerate (pa_cons (pv 0) pa_nil)) (pgT g.K 2 (pgs_cons (pg_name (i := 2) nd__law_bear rfl (Or.inr rfl)) (pgs_cons (pg_name (i := 3) nd__law_bear rfl (Or.inl rfl)) pgs_nil))) (pss_one (ps_if (pt_cmpR op_gt (pe_callB (cSum g.K rfl) (by rfl) tx.sum bt_sum (pa_cons (pe_lc rfl nd__law_bear (piL g.K (pv 1)) (blkOk_by (own := [("_law_row", 4), ("_law_times", 5)]) (N := N__law_bear) (sc := defScope s_law_bear) (by decide +kernel)) (fun _ _ _ _ _ => (pgT g.K 2 (pgs_cons (pg_name (i := 4) nd__law_bear rfl (Or.inl rfl)) (pgs_cons (pg_name (i := 5) nd__law_bear rfl (Or.inl rfl)) pgs_nil)))) (fun _ _ _ _ _ => (pts_one (pt_cmpR (opIn g.K) (pv 2) (pv 4) (by rfl)))) (fun _ _ _ _ _ => (pv 5))) pa_nil)) (pe_ix (ixT g.K) (pv 3) pe_int (fun _ _ => rfl)) (nomark _)) (pss_one (ps_ret pe_bl)) pss_nil)))
    (pss_one (ps_ret pe_bl))), ?_⟩
  rintro xs Q ⟨rs, rows, rfl, hl, hQ⟩
  refine st_seq (M := fun ρ => Bear rs rows) (st_for (it_enumR (l := rs) (enc := rdD) (0, 0, 0) (ev_var rfl)) (fun _ i ρ => ∃ a b c d, ρ = [some (.d (rdsD rs)), some (.d (rowsD rows)), a, b, c, d] ∧ ∀ a, a < i → useOf rows a ≤ (rd rs a).2.2) ?_ ?_ ?_) ?_
  · rintro ds rfl
    exact ⟨none, none, none, none, rfl, fun a ha => absurd ha (Nat.not_lt_zero _)⟩
  · rintro ds i d ρ rfl hd ⟨a, b, c1, d1, rfl, hi⟩
    obtain ⟨hil, rfl⟩ := range_get hd
    refine ⟨_, _, tg_tup (tgs_cons tg_d (tgs_cons tg_d tgs_nil)) rfl, ?_⟩
    refine st_ifB (b := decide ((rd rs i).2.2 < useOf rows i)) (eb_test (ev_gt (ev_sum (ns := (rows.filter fun r => decide (i ∈ r.1)).map fun r => r.2) (ev_lc (l := rows) (enc := rwD) (p := fun r => decide (i ∈ r.1)) (f := fun r : Rwx => PyData.int r.2) (it_list (ev_var rfl)) hl fun r hr => ⟨_, _, tg_tup (tgs_cons tg_d (tgs_cons tg_d tgs_nil)) rfl, by decide, eb_test (ev_inN (ns := r.1) (ev_var rfl) (ev_var rfl) rfl), fun _ => ev_var rfl⟩) (by rw [List.map_map]; rfl)) (ev_ixTn (ds := [.int (rd rs i).1, .int (rd rs i).2.1, .int (rd rs i).2.2]) (ev_var rfl) (ev_n 2) rfl))) (fun hb => ?_) fun hb => ?_
    · have hb := of_decide_eq_true hb
      exact st_ret ev_bl (hQ false ⟨fun z => (by cases z), fun z => (by have : useOf rows i ≤ (rd rs i).2.2 := z i hil; omega)⟩)
    · have hb := of_decide_eq_false hb
      refine st_nx ⟨_, _, c1, d1, rfl, fun a ha => ?_⟩
      by_cases he : a = i
      · rw [he]
        omega
      · exact hi a (by omega)
  · rintro ds ρ rfl ⟨a, b, c1, d1, rfl, hi⟩
    rw [List.length_map, List.length_range] at hi
    exact hi
  · intro ρ hb
    exact st_ret ev_bl (hQ true ⟨fun _ => hb, fun _ => rfl⟩)
theorem lsums {g : Gb} {tv tn : TE} {ρ : Rho} {K : PySem.W.Frag} {es : List Ent} {n i : Nat} (hv : Ev g tv ρ (.d (entsD es))) (hi : i < ρ.length) (hn : Ev g tn ((wipeR ρ [i]).set i (some (.d .none))) (.d (.int (n : Int))) → True) (hn2 : ∀ e : Ent, Ev g tn ((wipeR ρ [i]).set i (some (.d (entD e)))) (.d (.int (n : Int)))) (hl : es.length ≤ 1000000) :
    Ev g (tCB (rSum K) (tCons (tLc (iList K tv) (gName i) (tTest (tOp rEq (tOp (rIxT K) (tVar i) (tC (.int 0))) tn)) (tOp (rIxT K) (tVar i) (tC (.int 2))) [i]) tNil)) ρ (.d (.int (sumOf es n))) := by
  have at1 : ∀ e : Ent, Ev g (tVar i) ((wipeR ρ [i]).set i (some (.d (entD e)))) (.d (.tuple [.int (e.1 : Int), tupN e.2.1, .int e.2.2])) := fun e => ev_var (by rw [List.getElem?_set_self (by rw [wipeR_length]; exact hi)]; rfl)
  refine ev_sum (ns := (es.filter fun e => decide (e.1 = n)).map fun e => e.2.2) (ev_lc (l := es) (enc := entD) (p := fun e => decide (e.1 = n)) (f := fun e : Ent => PyData.int e.2.2) (it_list hv) hl fun e he => ⟨_, _, tg_d, by intro x hx; exact hx, eb_test (ev_eqN (ev_ixTn (at1 e) (ev_n 0) rfl) (hn2 e)), fun _ => ev_ixTn (at1 e) (ev_n 2) rfl⟩) (by rw [List.map_map]; rfl)
theorem lrows {g : Gb} {tv : TE} {ρ : Rho} {K : PySem.W.Frag} {es : List Ent} {i : Nat} (hv : Ev g tv ρ (.d (entsD es))) (hi : i < ρ.length) (hl : es.length ≤ 1000000) :
    Ev g (tLc (iList K tv) (gName i) tYes (tSl (rSlA K) (tVar i) (tPart (tC (.int 1))) tNoPart) [i]) ρ (.d (rowsD (es.map fun e => e.2))) := by
  have at1 : ∀ e : Ent, Ev g (tVar i) ((wipeR ρ [i]).set i (some (.d (entD e)))) (.d (.tuple [.int (e.1 : Int), tupN e.2.1, .int e.2.2])) := fun e => ev_var (by rw [List.getElem?_set_self (by rw [wipeR_length]; exact hi)]; rfl)
  refine (ev_lcA (l := es) (enc := entD) (f := fun e : Ent => rwD e.2) (it_list hv) hl fun e he => ⟨_, _, tg_d, by intro x hx; exact hx, (ev_slT (lo := some ((1 : Nat) : Int)) (hi := none) (at1 e) (eo_some ev_int) eo_none).is (by rw [cut_drop]; rfl)⟩).is (by unfold rowsD; rw [List.map_map]; rfl)
def S__law_is_plan : SpD := fun xs P => ∃ (h : Nat) (rs : List Road) (ms : List Msg) (es : List Ent), xs = [.d (rdsD rs), .d (msgsD ms), .d (entsD es)] ∧ NewsOk h rs ms ∧ PlanOk rs ms es ∧ es.length ≤ 100000 ∧ P (.d (.bool true))
abbrev N__law_is_plan : List Str := ["_law_roads", "_law_messages", "_law_value", "_law_one", "_law_sums", "_law_number", "_law_knowing", "_law_pieces"]
abbrev ps__law_is_plan : List Str := ["_law_roads", "_law_messages", "_law_value"]
theorem sc__law_is_plan : FnScope N__law_is_plan ps__law_is_plan (defScope s_law_is_plan) := ⟨rfl, rfl, rfl, by decide +kernel, rfl, by decide +kernel, by decide +kernel⟩
theorem nd__law_is_plan : N__law_is_plan.Nodup := sc__law_is_plan.nd
theorem bd__law_is_plan : BindH "_law_is_plan" "_law_is_plan" ps__law_is_plan s_law_is_plan := fun _ _ _ _ _ _ us hl => match us, hl with | [_, _, _], _ => rfl
theorem ok__law_is_plan {P : Program} {w : World} {mg : Str → Option Value} {base : Heap} {g : Gb} (c : Txt g mg base) : FOk P w g.K mg base 5 "_law_is_plan" ps__law_is_plan (spOf g S__law_is_plan) := by
  have tx := txt_tx c
  refine FOk.mk' (h__law_is_plan c) sc__law_is_plan bd__law_is_plan (by intro xs Q h; unfold S__law_is_plan at h; (repeat' (rcases h with ⟨_, h⟩)); subst_vars; rfl) fun cdv A outer s H E hr => ⟨_, (pss_cons (ps_if (PW.pt (pw_or (pt_not (pt_val (pe_callB (cIsi g.K) (by rfl) tx.isinstance bt_isinstance (pa_cons (pv 2) (pa_cons (pe_bltn (v := .ty "list") (by rfl) tx.list bt_list rfl) pa_nil))))) (pw_or1 (pt_cmpR (opNeD g.K hr.units) (pe_lc rfl nd__law_is_plan (piL g.K (pv 2)) (blkOk_by (own := [("_law_one", 3)]) (N := N__law_is_plan) (sc := defScope s_law_is_plan) (by decide +kernel)) (fun _ _ _ _ _ => (pg_name (i := 3) nd__law_is_plan rfl (Or.inl rfl))) (fun _ _ _ _ _ => (pts_one (pt_not (pt_val (pe_callF (ok__law_is_entry c) (hr.mono (by decide)) (pa_cons (pe_callB (cLen g.K) (by rfl) tx.len bt_len (pa_cons (pv 1) pa_nil)) (pa_cons (pv 3) pa_nil))))))) (fun _ _ _ _ _ => (pv 3))) (pe_lst pa_nil) (nomark _))))) (pss_one (ps_ret pe_bl)) pss_nil)
    (pss_cons (ps_if (pt_cmpR (opNeD g.K hr.units) (pe_lc rfl nd__law_is_plan (piL g.K (pv 2)) (blkOk_by (own := [("_law_one", 3)]) (N := N__law_is_plan) (sc := defScope s_law_is_plan) (by decide +kernel)) (fun _ _ _ _ _ => (pg_name (i := 3) nd__law_is_plan rfl (Or.inl rfl))) (fun _ _ _ _ _ => (pts_one (pt_not (pt_val (pe_callF (ok__law_is_forest c) (hr.mono (by decide)) (pa_cons (pv 0) (pa_cons (pe_ix (ixL g.K) (pv 1) (pe_ix (ixT g.K) (pv 3) pe_int (fun _ _ => rfl)) (fun _ _ => rfl)) (pa_cons (pe_ix (ixT g.K) (pv 3) pe_int (fun _ _ => rfl)) pa_nil)))))))) (fun _ _ _ _ _ => (pv 3))) (pe_lst pa_nil) (nomark _)) (pss_one (ps_ret pe_bl)) pss_nil)
    (pss_cons (ps_setLc (i := 4) rfl nd__law_is_plan rfl rfl (sw_true rfl rfl rfl (by decide +kernel)) (pi_range1 rfl tx.range (pa_cons (pe_callB (cLen g.K) (by rfl) tx.len bt_len (pa_cons (pv 1) pa_nil)) pa_nil)) (blkOk_by (own := [("_law_number", 5)]) (N := N__law_is_plan) (sc := defScope s_law_is_plan) (by decide +kernel)) (fun _ _ _ _ _ => (pg_name (i := 5) nd__law_is_plan rfl (Or.inr rfl))) (fun _ _ _ _ _ => pts_nil) (fun _ _ _ _ _ => (pe_callB (cSum g.K rfl) (by rfl) tx.sum bt_sum (pa_cons (pe_lc rfl nd__law_is_plan (piL g.K (pv 2)) (blkOk_by (own := [("_law_one", 3)]) (by kernel_rfl)) (fun _ _ _ _ _ => (pg_name (i := 3) nd__law_is_plan rfl (Or.inl rfl))) (fun _ _ _ _ _ => (pts_one (pt_cmpR op_eq (pe_ix (ixT g.K) (pv 3) pe_int (fun _ _ => rfl)) (pv 5) (nomark _)))) (fun _ _ _ _ _ => (pe_ix (ixT g.K) (pv 3) pe_int (fun _ _ => rfl)))) pa_nil))))
    (pss_one (ps_ret (pe_and (pe_cmpR (opEqD g.K hr.units) (pv 4) (pe_lc rfl nd__law_is_plan (piL g.K (pv 1)) (blkOk_by (own := [("_law_knowing", 6), ("_law_pieces", 7)]) (N := N__law_is_plan) (sc := defScope s_law_is_plan) (by decide +kernel)) (fun _ _ _ _ _ => (pgT g.K 2 (pgs_cons (pg_name (i := 6) nd__law_is_plan rfl (Or.inl rfl)) (pgs_cons (pg_name (i := 7) nd__law_is_plan rfl (Or.inl rfl)) pgs_nil)))) (fun _ _ _ _ _ => pts_nil) (fun _ _ _ _ _ => (pv 7))) (nomark _)) (pe_one (pe_callF (ok__law_bear c) (hr.mono (by decide)) (pa_cons (pv 0) (pa_cons (pe_lc rfl nd__law_is_plan (piL g.K (pv 2)) (blkOk_by (own := [("_law_one", 3)]) (N := N__law_is_plan) (sc := defScope s_law_is_plan) (by decide +kernel)) (fun _ _ _ _ _ => (pg_name (i := 3) nd__law_is_plan rfl (Or.inl rfl))) (fun _ _ _ _ _ => pts_nil) (fun _ _ _ _ _ => (pe_slice (slT g.K) (pv 3) (po_some pe_int) po_none))) pa_nil)))))))))), ?_⟩
  rintro xs Q ⟨h, rs, ms, es, rfl, ok, po, hl, hQ⟩
  have hm := ok.few
  refine sq_no (b := false) ((eb_or (eb_not (eb_test (ev_isi (ev_var rfl) rfl rfl))) fun _ => eb_none (ev_lc0 (l := es) (enc := entD) (it_list (ev_var rfl)) (by omega) fun e he => ⟨_, _, tg_d, by decide, eb_not (eb_test (lis_entry (e := e) ((ev_len (ds := ms.map msgD) (ev_var rfl) rfl).is (by rw [List.length_map])) (ev_var rfl) (po.ent e he).1.1 (by omega) (po.ent e he).1.2))⟩)).is rfl) rfl ?_
  refine sq_no (eb_none (ev_lc0 (l := es) (enc := entD) (it_list (ev_var rfl)) (by omega) fun e he => ⟨_, _, tg_d, by decide, eb_not (eb_test (ev_call (P := fun y => y = .d (.bool true)) (ea_cons (ev_var rfl) (ea_cons (ev_ixLn (ds := ms.map msgD) (n := e.1) (ev_var rfl) (ev_ixTn (ds := [.int (e.1 : Int), tupN e.2.1, .int e.2.2]) (ev_var rfl) (ev_n 0) rfl) rfl (md_getD (po.ent e he).1.1)) (ea_cons (ev_ixTn (ds := [.int (e.1 : Int), tupN e.2.1, .int e.2.2]) (ev_var rfl) (ev_n 1) rfl) ea_nil))) ⟨h, rs, md ms e.1, e.2.1, rfl, ok.net, ok.lot (po.ent e he).1.1, (po.ent e he).2, rfl⟩))⟩)) rfl ?_
  refine sq_set (x := .d (intL ((List.range ms.length).map (sumOf es)))) ((ev_lcA (l := List.range ms.length) (enc := fun i : Nat => PyData.int (i : Int)) (f := fun i : Nat => PyData.int (sumOf es i)) (it_rangeN ((ev_len (ds := ms.map msgD) (ev_var rfl) rfl).is (by rw [List.length_map])) (by omega)) (by rw [List.length_range]; omega) fun i hi => ⟨_, _, tg_d, by decide, lsums (n := i) (i := 3) (ev_var rfl) (by show 3 < 8; decide) (fun _ => trivial) (fun e => ev_var rfl) (by omega)⟩).is (by unfold intL; rw [List.map_map]; rfl)) ?_
  have e1 : (List.range ms.length).map (sumOf es) = ms.map fun m => m.2 := by
    refine List.ext_getElem? fun i => ?_
    rw [List.getElem?_map, List.getElem?_map]
    by_cases hi : i < ms.length
    · rw [List.getElem?_range hi, md_get hi]
      exact congrArg some (po.sums i hi)
    · rw [List.getElem?_eq_none (by rw [List.length_range]; omega), List.getElem?_eq_none (by omega)]
      rfl
  refine st_ret ((ev_andV (a := true) (b := true) ((ev_eqD (d := intL (ms.map fun m => m.2)) (d' := intL (ms.map fun m => m.2)) ((ev_var rfl).is (by rw [← e1])) ((ev_lcA (l := ms) (enc := msgD) (f := fun m : Msg => PyData.int m.2) (it_list (ev_var rfl)) (by omega) fun m hm => ⟨_, _, tg_tup (tgs_cons tg_d (tgs_cons tg_d tgs_nil)) rfl, by decide, ev_var rfl⟩).is (by unfold intL; rw [List.map_map]; rfl)) (pl_list (n := 0) (pl_ints _)).sh (pl_list (n := 0) (pl_ints _)).sh).is (by show Dx.d (.bool (PyData.eqvAll _ _)) = _; rw [eqvAll_ints]; simp)) fun _ => ev_call (P := fun y => y = .d (.bool true)) (ea_cons (ev_var rfl) (ea_cons (lrows (i := 3) (es := es) (ev_var rfl) (by show 3 < 8; decide) (by omega)) ea_nil)) ⟨rs, es.map fun e => e.2, rfl, by rw [List.length_map]; omega, fun b hb => by rw [hb.mpr po.bear]⟩).is rfl) hQ
def S__law_is_begun_so : SpD := fun xs P => ∃ (h : Nat) (rs : List Road) (ms : List Msg) (B : List Ent), xs = [.d (rdsD rs), .d (msgsD ms), .d (entsD B)] ∧ NewsOk h rs ms ∧ B.length ≤ 6 ∧ (∀ e ∈ B, EntOk ms e ∧ RowOk rs e.2.1 ∧ LedOk rs (md ms e.1).1 e.2.1) ∧ ∀ b : Bool, (b = true → BegOk rs ms B) → P (.d (.bool b))
abbrev N__law_is_begun_so : List Str := ["_law_roads", "_law_messages", "_law_value", "_law_one", "_law_number", "_law_row", "_law_times", "_law_message_here"]
abbrev ps__law_is_begun_so : List Str := ["_law_roads", "_law_messages", "_law_value"]
theorem sc__law_is_begun_so : FnScope N__law_is_begun_so ps__law_is_begun_so (defScope s_law_is_begun_so) := ⟨rfl, rfl, rfl, by decide +kernel, rfl, by decide +kernel, by decide +kernel⟩
theorem nd__law_is_begun_so : N__law_is_begun_so.Nodup := sc__law_is_begun_so.nd
theorem bd__law_is_begun_so : BindH "_law_is_begun_so" "_law_is_begun_so" ps__law_is_begun_so s_law_is_begun_so := fun _ _ _ _ _ _ us hl => match us, hl with | [_, _, _], _ => rfl
theorem ok__law_is_begun_so {P : Program} {w : World} {mg : Str → Option Value} {base : Heap} {g : Gb} (c : Txt g mg base) : FOk P w g.K mg base 4 "_law_is_begun_so" ps__law_is_begun_so (spOf g S__law_is_begun_so) := by
  have tx := txt_tx c
  refine FOk.mk' (h__law_is_begun_so c) sc__law_is_begun_so bd__law_is_begun_so (by intro xs Q h; unfold S__law_is_begun_so at h; (repeat' (rcases h with ⟨_, h⟩)); subst_vars; rfl) fun cdv A outer s H E hr => ⟨_, (pss_cons (ps_if (PW.pt (pw_or (pt_not (pt_val (pe_callB (cIsi g.K) (by rfl) tx.isinstance bt_isinstance (pa_cons (pv 2) (pa_cons (pe_bltn (v := .ty "list") (by rfl) tx.list bt_list rfl) pa_nil))))) (pw_or1 (pt_cmpR op_gt (pe_callB (cLen g.K) (by rfl) tx.len bt_len (pa_cons (pv 2) pa_nil)) pe_int (nomark _))))) (pss_one (ps_ret pe_bl)) pss_nil)
    (pss_cons (ps_if (pt_cmpR (opNeD g.K hr.units) (pe_lc rfl nd__law_is_begun_so (piL g.K (pv 2)) (blkOk_by (own := [("_law_one", 3)]) (N := N__law_is_begun_so) (sc := defScope s_law_is_begun_so) (by decide +kernel)) (fun _ _ _ _ _ => (pg_name (i := 3) nd__law_is_begun_so rfl (Or.inl rfl))) (fun _ _ _ _ _ => (pts_one (pt_not (pt_val (pe_callF (ok__law_is_entry c) (hr.mono (by decide)) (pa_cons (pe_callB (cLen g.K) (by rfl) tx.len bt_len (pa_cons (pv 1) pa_nil)) (pa_cons (pv 3) pa_nil))))))) (fun _ _ _ _ _ => (pv 3))) (pe_lst pa_nil) (nomark _)) (pss_one (ps_ret pe_bl)) pss_nil)
    (pss_cons (ps_for PassesOwn.never rfl (piL g.K (pv 2)) (pgT g.K 3 (pgs_cons (pg_name (i := 4) nd__law_is_begun_so rfl (Or.inr rfl)) (pgs_cons (pg_name (i := 5) nd__law_is_begun_so rfl (Or.inl rfl)) (pgs_cons (pg_name (i := 6) nd__law_is_begun_so rfl (Or.inl rfl)) pgs_nil)))) (pss_one (ps_if (PW.pt (pw_or (pt_not (pt_val (pe_callF (ok__law_is_row c) (hr.mono (by decide)) (pa_cons (pv 0) (pa_cons (pv 5) pa_nil))))) (pw_or1 (pt_not (pt_val (pe_callF (ok__law_is_led c) (hr.mono (by decide)) (pa_cons (pv 0) (pa_cons (pe_ix (ixL g.K) (pv 1) (pv 4) (fun _ _ => rfl)) (pa_cons (pv 5) pa_nil))))))))) (pss_one (ps_ret pe_bl)) pss_nil)))
    (pss_cons (ps_for PassesOwn.never rfl (piEnum g.K tx.enumerate (pa_cons (pv 1) pa_nil)) (pgT g.K 2 (pgs_cons (pg_name (i := 4) nd__law_is_begun_so rfl (Or.inr rfl)) (pgs_cons (pg_name (i := 7) nd__law_is_begun_so rfl (Or.inl rfl)) pgs_nil))) (pss_one (ps_if (pt_cmpR op_gt (pe_callB (cSum g.K rfl) (by rfl) tx.sum bt_sum (pa_cons (pe_lc rfl nd__law_is_begun_so (piL g.K (pv 2)) (blkOk_by (own := [("_law_one", 3)]) (N := N__law_is_begun_so) (sc := defScope s_law_is_begun_so) (by decide +kernel)) (fun _ _ _ _ _ => (pg_name (i := 3) nd__law_is_begun_so rfl (Or.inl rfl))) (fun _ _ _ _ _ => (pts_one (pt_cmpR op_eq (pe_ix (ixT g.K) (pv 3) pe_int (fun _ _ => rfl)) (pv 4) (nomark _)))) (fun _ _ _ _ _ => (pe_ix (ixT g.K) (pv 3) pe_int (fun _ _ => rfl)))) pa_nil)) (pe_ix (ixT g.K) (pv 7) pe_int (fun _ _ => rfl)) (nomark _)) (pss_one (ps_ret pe_bl)) pss_nil)))
    (pss_one (ps_ret (pe_callF (ok__law_bear c) (hr.mono (by decide)) (pa_cons (pv 0) (pa_cons (pe_lc rfl nd__law_is_begun_so (piL g.K (pv 2)) (blkOk_by (own := [("_law_one", 3)]) (N := N__law_is_begun_so) (sc := defScope s_law_is_begun_so) (by decide +kernel)) (fun _ _ _ _ _ => (pg_name (i := 3) nd__law_is_begun_so rfl (Or.inl rfl))) (fun _ _ _ _ _ => pts_nil) (fun _ _ _ _ _ => (pe_slice (slT g.K) (pv 3) (po_some pe_int) po_none))) pa_nil))))))))), ?_⟩
  rintro xs Q ⟨h, rs, ms, B, rfl, ok, hb, hB, hQ⟩
  have hm := ok.few
  have hrl := ok.net.many
  refine sq_no (b := false) ((eb_or (eb_not (eb_test (ev_isi (ev_var rfl) rfl rfl))) fun _ => eb_test (ev_gt ((ev_len (ds := B.map entD) (ev_var rfl) rfl).is (by rw [List.length_map])) ev_int)).is (by simp; omega)) rfl ?_
  refine sq_no (eb_none (ev_lc0 (l := B) (enc := entD) (it_list (ev_var rfl)) (by omega) fun e he => ⟨_, _, tg_d, by decide, eb_not (eb_test (lis_entry (e := e) ((ev_len (ds := ms.map msgD) (ev_var rfl) rfl).is (by rw [List.length_map])) (ev_var rfl) (hB e he).1.1 (by omega) (hB e he).1.2))⟩)) rfl ?_
  refine st_seq (M := fun ρ => ∃ a b c d e, ρ = [some (.d (rdsD rs)), some (.d (msgsD ms)), some (.d (entsD B)), a, b, c, d, e]) (st_for (it_list (ds := B.map entD) (ev_var rfl)) (fun _ i ρ => ∃ a b c d e, ρ = [some (.d (rdsD rs)), some (.d (msgsD ms)), some (.d (entsD B)), a, b, c, d, e]) ?_ ?_ ?_) ?_
  · rintro ds rfl
    exact ⟨none, none, none, none, none, rfl⟩
  · rintro ds i d ρ rfl hd ⟨a, b, c1, d1, e, rfl⟩
    rw [List.getElem?_map] at hd
    cases hs : B[i]? with
    | none => rw [hs] at hd; cases hd
    | some x =>
      rw [hs] at hd
      obtain ⟨n, row, t⟩ := x
      cases hd
      obtain ⟨⟨h1, h2⟩, h3, h4⟩ := hB _ (List.mem_of_getElem? hs)
      dsimp only at h1 h2 h3 h4
      refine ⟨_, _, tg_tup (tgs_cons tg_d (tgs_cons tg_d (tgs_cons tg_d tgs_nil))) rfl, ?_⟩
      refine st_ifB (eb_or (eb_not (eb_test (lis_row (ev_var rfl) (ev_var rfl) h3 hrl))) fun _ => eb_not (eb_test (lis_led (m := md ms n) (ev_var rfl) (ev_ixLn (ds := ms.map msgD) (ev_var rfl) (ev_var rfl) rfl (md_getD h1)) (ev_var rfl) ok.net (ok.lot h1) h3 h4))) (fun z => by cases z) fun _ => st_nx ⟨a, _, _, _, e, rfl⟩
  · rintro ds ρ rfl ⟨a, b, c1, d1, e, rfl⟩
    exact ⟨a, b, c1, d1, e, rfl⟩
  rintro ρ ⟨a, b, c1, d1, e, rfl⟩
  refine st_seq (M := fun ρ => ∃ a b c d e, ρ = [some (.d (rdsD rs)), some (.d (msgsD ms)), some (.d (entsD B)), a, b, c, d, e] ∧ ∀ n, n < ms.length → sumOf B n ≤ (md ms n).2) (st_for (it_enumR (l := ms) (enc := msgD) ([], 0) (ev_var rfl)) (fun _ i ρ => ∃ a b c d e, ρ = [some (.d (rdsD rs)), some (.d (msgsD ms)), some (.d (entsD B)), a, b, c, d, e] ∧ ∀ n, n < i → sumOf B n ≤ (md ms n).2) ?_ ?_ ?_) ?_
  · rintro ds rfl
    exact ⟨a, b, c1, d1, e, rfl, fun n hn => absurd hn (Nat.not_lt_zero _)⟩
  · rintro ds i d ρ rfl hd ⟨a, b, c1, d1, e, rfl, hi⟩
    obtain ⟨hil, rfl⟩ := range_get hd
    refine ⟨_, _, tg_tup (tgs_cons tg_d (tgs_cons tg_d tgs_nil)) rfl, ?_⟩
    refine st_ifB (b := decide ((md ms i).2 < sumOf B i)) (eb_test (ev_gt (lsums (n := i) (i := 3) (es := B) (ev_var rfl) (by show 3 < 8; decide) (fun _ => trivial) (fun e => ev_var rfl) (by omega)) (ev_ixTn (ds := [tupN (md ms i).1, .int (md ms i).2]) (ev_var rfl) (ev_n 1) rfl))) (fun hbb => ?_) fun hbb => ?_
    · have hbb := of_decide_eq_true hbb
      exact st_ret ev_bl (hQ false fun z => by cases z)
    · have hbb := of_decide_eq_false hbb
      refine st_nx ⟨a, _, c1, d1, _, rfl, fun n hn => ?_⟩
      by_cases he : n = i
      · rw [he]
        omega
      · exact hi n (by omega)
  · rintro ds ρ rfl ⟨a, b, c1, d1, e, rfl, hi⟩
    rw [List.length_map, List.length_range] at hi
    exact ⟨a, b, c1, d1, e, rfl, hi⟩
  rintro ρ ⟨a, b, c1, d1, e, rfl, hs⟩
  refine st_retP ((ev_call (P := fun y => ∃ b : Bool, y = .d (.bool b) ∧ (b = true ↔ Bear rs (B.map fun e => e.2))) (ea_cons (ev_var rfl) (ea_cons (lrows (i := 3) (es := B) (ev_var rfl) (by show 3 < 8; decide) (by omega)) ea_nil)) ⟨rs, B.map fun e => e.2, rfl, by rw [List.length_map]; omega, fun b hb => ⟨b, rfl, hb⟩⟩).imp fun x ⟨b, ex, hbb⟩ => ?_)
  rw [ex]
  exact ⟨rfl, hQ b fun z => ⟨hb, hB, hbb.mp z, hs⟩⟩
end TB
set_option Elab.async false
set_option linter.all false
set_option autoImplicit false
set_option maxRecDepth 100000
set_option maxHeartbeats 4000000
namespace TB
open PySem PySem.Spec PyProof.Rows L2
def restsM (ms : List Msg) (B : List Ent) : List Msg := (List.zip ms ((List.range ms.length).map (sumOf B))).map fun p => (p.1.1, p.1.2 - p.2)
theorem restsM_len (ms : List Msg) (B : List Ent) : (restsM ms B).length = ms.length := by
  unfold restsM
  rw [List.length_map, List.length_zip, List.length_map, List.length_range, Nat.min_self]
def knowB (rs : List Road) (ms : List Msg) (e : Ent) : List Nat := (md ms e.1).1 ++ ends rs e.2.1
def entCnt (rs : List Road) (l row : List Nat) : Nat := (row.filter fun a => entL (rd rs a) l).length
noncomputable def leftStep (rs : List Road) (ms : List Msg) (l : List Nat) (m : Int) (e : Ent) : Int := (if (meetB l (heardL rs (md ms e.1).1) && !meetB l (knowB rs ms e)) = true then m - e.2.2 else m) - e.2.2 * (entCnt rs l e.2.1 : Int)
noncomputable def leftL (rs : List Road) (ms : List Msg) (B : List Ent) (l : List Nat) : Int := B.foldl (leftStep rs ms l) (flowL rs l - needZ (restsM ms B) (ms.map fun m => heardL rs m.1) l ms.length)
def S__law_left_rows : SpD := fun xs P => ∃ (h : Nat) (rs : List Road) (ms : List Msg) (B : List Ent), xs = [.d (.int (h : Int)), .d (rdsD rs), .d (msgsD ms), .d (entsD B)] ∧ NewsOk h rs ms ∧ BegOk rs ms B ∧ P (.d (rowsL h (leftL rs ms B)))
theorem foldl_take {α β : Type} {f : β → α → β} {l : List α} {i : Nat} {a : α} {b : β} (h : l[i]? = some a) : (l.take (i + 1)).foldl f b = f ((l.take i).foldl f b) a := by
  rw [List.take_add_one, h, Option.toList_some, List.foldl_append]
  rfl
abbrev N__law_left_rows : List Str := ["_law_many", "_law_roads", "_law_messages", "_law_begun", "_law_heards_here", "_law_found", "_law_sums", "_law_one", "_law_number", "_law_rests", "_law_message_here", "_law_more", "_law_lot_here", "_law_row", "_law_times", "_law_knowing"]
abbrev ps__law_left_rows : List Str := ["_law_many", "_law_roads", "_law_messages", "_law_begun"]
theorem sc__law_left_rows : FnScope N__law_left_rows ps__law_left_rows (defScope s_law_left_rows) := ⟨rfl, rfl, rfl, by decide +kernel, rfl, by decide +kernel, by decide +kernel⟩
theorem nd__law_left_rows : N__law_left_rows.Nodup := sc__law_left_rows.nd
theorem bd__law_left_rows : BindH "_law_left_rows" "_law_left_rows" ps__law_left_rows s_law_left_rows := fun _ _ _ _ _ _ us hl => match us, hl with | [_, _, _, _], _ => rfl
theorem ok__law_left_rows {P : Program} {w : World} {mg : Str → Option Value} {base : Heap} {g : Gb} (c : Txt g mg base) : FOk P w g.K mg base 3 "_law_left_rows" ps__law_left_rows (spOf g S__law_left_rows) := by
  have tx := txt_tx c
  refine FOk.mk' (h__law_left_rows c) sc__law_left_rows bd__law_left_rows (by intro xs Q h; unfold S__law_left_rows at h; (repeat' (rcases h with ⟨_, h⟩)); subst_vars; rfl) fun cdv A outer s H E hr => ⟨_, (pss_cons (ps_par (i := 4) (j := 5) rfl nd__law_left_rows rfl rfl (by decide) rfl rfl (pa_cons (pe_callF (ok__law_heards c) (hr.mono (by decide)) (pa_cons (pv 1) (pa_cons (pv 2) pa_nil))) (pa_cons (pe_lst pa_nil) pa_nil)) (by rfl))
    (pss_cons (ps_setLc (i := 6) rfl nd__law_left_rows rfl rfl (sw_true rfl rfl rfl (by decide +kernel)) (pi_range1 rfl tx.range (pa_cons (pe_callB (cLen g.K) (by rfl) tx.len bt_len (pa_cons (pv 2) pa_nil)) pa_nil)) (blkOk_by (own := [("_law_number", 8)]) (N := N__law_left_rows) (sc := defScope s_law_left_rows) (by decide +kernel)) (fun _ _ _ _ _ => (pg_name (i := 8) nd__law_left_rows rfl (Or.inr rfl))) (fun _ _ _ _ _ => pts_nil) (fun _ _ _ _ _ => (pe_callB (cSum g.K rfl) (by rfl) tx.sum bt_sum (pa_cons (pe_lc rfl nd__law_left_rows (piL g.K (pv 3)) (blkOk_by (own := [("_law_one", 7)]) (by kernel_rfl)) (fun _ _ _ _ _ => (pg_name (i := 7) nd__law_left_rows rfl (Or.inl rfl))) (fun _ _ _ _ _ => (pts_one (pt_cmpR op_eq (pe_ix (ixT g.K) (pv 7) pe_int (fun _ _ => rfl)) (pv 8) (nomark _)))) (fun _ _ _ _ _ => (pe_ix (ixT g.K) (pv 7) pe_int (fun _ _ => rfl)))) pa_nil))))
    (pss_cons (ps_setLc (i := 9) rfl nd__law_left_rows rfl rfl (sw_true rfl rfl rfl (by decide +kernel)) (piZip g.K tx.zip (pa_cons (pv 2) (pa_cons (pv 6) pa_nil))) (blkOk_by (own := [("_law_message_here", 10), ("_law_more", 11)]) (N := N__law_left_rows) (sc := defScope s_law_left_rows) (by decide +kernel)) (fun _ _ _ _ _ => (pgT g.K 2 (pgs_cons (pg_name (i := 10) nd__law_left_rows rfl (Or.inl rfl)) (pgs_cons (pg_name (i := 11) nd__law_left_rows rfl (Or.inl rfl)) pgs_nil)))) (fun _ _ _ _ _ => pts_nil) (fun _ _ _ _ _ => (pe_tup (pa_cons (pe_ix (ixT g.K) (pv 10) pe_int (fun _ _ => rfl)) (pa_cons (pe_op op_sub (pe_ix (ixT g.K) (pv 10) pe_int (fun _ _ => rfl)) (pv 11)) pa_nil)))))
    (pss_cons (ps_for PassesOwn.never rfl (piL g.K (pe_callF (ok__law_lots c) (hr.mono (by decide)) (pa_cons (pv 0) pa_nil))) (pg_name (i := 12) nd__law_left_rows rfl (Or.inr rfl)) (pss_cons (ps_set (i := 11) nd__law_left_rows rfl (Or.inl rfl) (pe_op op_sub (pe_callF (ok__law_flow c) (hr.mono (by decide)) (pa_cons (pv 1) (pa_cons (pv 12) pa_nil))) (pe_callF (ok__law_need c) (hr.mono (by decide)) (pa_cons (pv 9) (pa_cons (pv 4) (pa_cons (pv 12) (pa_cons pe_bl pa_nil)))))))
    (pss_cons (ps_for PassesOwn.never rfl (piL g.K (pv 3)) (pgT g.K 3 (pgs_cons (pg_name (i := 8) nd__law_left_rows rfl (Or.inl rfl)) (pgs_cons (pg_name (i := 13) nd__law_left_rows rfl (Or.inl rfl)) (pgs_cons (pg_name (i := 14) nd__law_left_rows rfl (Or.inl rfl)) pgs_nil)))) (pss_cons (ps_set (i := 15) nd__law_left_rows rfl (Or.inl rfl) (pe_op op_cat (pe_callTy (cList g.K) (by rfl) tx.list bt_list (pa_cons (pe_ix (ixT g.K) (pe_ix (ixL g.K) (pv 2) (pv 8) (fun _ _ => rfl)) pe_int (fun _ _ => rfl)) pa_nil)) (pe_lc rfl nd__law_left_rows (piT g.K (pv 13)) (blkOk_by (own := [("_law_one", 7)]) (N := N__law_left_rows) (sc := defScope s_law_left_rows) (by decide +kernel)) (fun _ _ _ _ _ => (pg_name (i := 7) nd__law_left_rows rfl (Or.inl rfl))) (fun _ _ _ _ _ => pts_nil) (fun _ _ _ _ _ => (pe_ix (ixT g.K) (pe_ix (ixL g.K) (pv 1) (pv 7) (fun _ _ => rfl)) pe_int (fun _ _ => rfl))))))
    (pss_cons (ps_if (PW.pt (pw_and (pt_val (pe_callF (ok__law_meet c) (hr.mono (by decide)) (pa_cons (pv 12) (pa_cons (pe_ix (ixL g.K) (pv 4) (pv 8) (fun _ _ => rfl)) pa_nil)))) (pw_and1 (pt_not (pt_val (pe_callF (ok__law_meet c) (hr.mono (by decide)) (pa_cons (pv 12) (pa_cons (pv 15) pa_nil)))))))) (pss_one (ps_set (i := 11) nd__law_left_rows rfl (Or.inl rfl) (pe_op op_sub (pv 11) (pv 14)))) pss_nil)
    (pss_one (ps_set (i := 11) nd__law_left_rows rfl (Or.inl rfl) (pe_op op_sub (pv 11) (pe_op op_mul (pv 14) (pe_callB (cLen g.K) (by rfl) tx.len bt_len (pa_cons (pe_lc rfl nd__law_left_rows (piT g.K (pv 13)) (blkOk_by (own := [("_law_one", 7)]) (N := N__law_left_rows) (sc := defScope s_law_left_rows) (by decide +kernel)) (fun _ _ _ _ _ => (pg_name (i := 7) nd__law_left_rows rfl (Or.inl rfl))) (fun _ _ _ _ _ => (pts_one (pt_val (pe_callF (ok__law_enters c) (hr.mono (by decide)) (pa_cons (pe_ix (ixL g.K) (pv 1) (pv 7) (fun _ _ => rfl)) (pa_cons (pv 12) pa_nil)))))) (fun _ _ _ _ _ => (pv 7))) pa_nil)))))))))
    (pss_one (ps_expr (pe_bm PySem.F.plainAttrs_list PySem.F.slot_list_append PySem.F.type_list_append mt_append (pv 5) (pa_cons (pe_tup (pa_cons (pv 12) (pa_cons (pv 11) pa_nil))) pa_nil)))))))
    (pss_one (ps_ret (pv 5))))))), ?_⟩
  rintro xs Q ⟨h, rs, ms, B, rfl, ok, bo, hQ⟩
  have hh := ok.net.h6
  have hm := ok.few
  have hrl := ok.net.many
  have hb := bo.few
  have hll := lotsL_len h (by omega)
  refine sq_parL (a := .d (lotsD (ms.map fun m => heardL rs m.1))) (b := .own []) (el_d (lheards_call (ev_var rfl) (ev_var rfl) ok) (el_o ew_nil el_nil)) ?_
  refine sq_set (x := .d (intL ((List.range ms.length).map (sumOf B)))) ((ev_lcA (l := List.range ms.length) (enc := fun i : Nat => PyData.int (i : Int)) (f := fun i : Nat => PyData.int (sumOf B i)) (it_rangeN ((ev_len (ds := ms.map msgD) (ev_var rfl) rfl).is (by rw [List.length_map])) (by omega)) (by rw [List.length_range]; omega) fun i hi => ⟨_, _, tg_d, by decide, lsums (n := i) (i := 7) (es := B) (ev_var rfl) (by show 7 < 16; decide) (fun _ => trivial) (fun e => ev_var rfl) (by omega)⟩).is (by unfold intL; rw [List.map_map]; rfl)) ?_
  refine sq_set (x := .d (msgsD (restsM ms B))) ((ev_lcA (l := List.zip ms ((List.range ms.length).map (sumOf B))) (enc := fun p : Msg × Int => PyData.tuple [msgD p.1, .int p.2]) (f := fun p : Msg × Int => msgD (p.1.1, p.1.2 - p.2)) (it_zipM (f := msgD) (k := PyData.int) (ev_var rfl) (ev_var rfl)) (by rw [List.length_zip]; omega) fun p hp => ⟨_, _, tg_tup (tgs_cons tg_d (tgs_cons tg_d tgs_nil)) rfl, by decide, ev_tup (ds := [tupN p.1.1, .int (p.1.2 - p.2)]) (ea_cons (ev_ixTn (ds := [tupN p.1.1, .int p.1.2]) (ev_var rfl) (ev_n 0) rfl) (ea_cons (ev_sub (ev_ixTn (ds := [tupN p.1.1, .int p.1.2]) (ev_var rfl) (ev_n 1) rfl) (ev_var rfl)) ea_nil)) (by simp)⟩).is (by unfold msgsD restsM; rw [List.map_map]; rfl)) ?_
  refine st_seq (M := fun ρ => ∃ c7 c8 c10 c11 c12 c13 c14 c15, ρ = [some (.d (.int (h : Int))), some (.d (rdsD rs)), some (.d (msgsD ms)), some (.d (entsD B)), some (.d (lotsD (ms.map fun m => heardL rs m.1))), some (.own ((lotsL h).map fun l => PyData.tuple [tupN l, .int (leftL rs ms B l)])), some (.d (intL ((List.range ms.length).map (sumOf B)))), c7, c8, some (.d (msgsD (restsM ms B))), c10, c11, c12, c13, c14, c15]) (st_for (it_list (ds := (lotsL h).map tupN) (llots_call (ev_var rfl) hh)) (fun _ i ρ => ∃ c7 c8 c10 c11 c12 c13 c14 c15, ρ = [some (.d (.int (h : Int))), some (.d (rdsD rs)), some (.d (msgsD ms)), some (.d (entsD B)), some (.d (lotsD (ms.map fun m => heardL rs m.1))), some (.own (((lotsL h).take i).map fun l => PyData.tuple [tupN l, .int (leftL rs ms B l)])), some (.d (intL ((List.range ms.length).map (sumOf B)))), c7, c8, some (.d (msgsD (restsM ms B))), c10, c11, c12, c13, c14, c15]) ?_ ?_ ?_) ?_
  · rintro ds rfl
    exact ⟨none, none, none, none, none, none, none, none, rfl⟩
  · rintro ds i d ρ rfl hd ⟨c7, c8, c10, c11, c12, c13, c14, c15, rfl⟩
    rw [List.getElem?_map] at hd
    cases hs : (lotsL h)[i]? with
    | none => rw [hs] at hd; cases hd
    | some l =>
      rw [hs] at hd
      cases hd
      have hlot : LotOk h l := lotsL_ok h (by omega) l (List.mem_of_getElem? hs)
      have hl6 := hlot.len hh
      refine ⟨_, _, tg_d, ?_⟩
      refine sq_set (x := .d (.int (flowL rs l - needZ (restsM ms B) (ms.map fun m => heardL rs m.1) l ms.length))) (ev_sub (ev_call (P := fun y => y = .d (.int (flowL rs l))) (ea_cons (ev_var rfl) (ea_cons (ev_var rfl) ea_nil)) ⟨rs, l, rfl, by omega, rfl⟩) (ev_call (ea_cons (ev_var rfl) (ea_cons (ev_var rfl) (ea_cons (ev_var rfl) (ea_cons ev_bl ea_nil)))) ⟨restsM ms B, ms.map fun m => heardL rs m.1, l, rfl, by rw [List.length_map, restsM_len], by omega, by rw [restsM_len]; omega, by rw [restsM_len]⟩)) ?_
      refine st_seq (M := fun ρ => ∃ c7 c8 c13 c14 c15, ρ = [some (.d (.int (h : Int))), some (.d (rdsD rs)), some (.d (msgsD ms)), some (.d (entsD B)), some (.d (lotsD (ms.map fun m => heardL rs m.1))), some (.own (((lotsL h).take i).map fun l => PyData.tuple [tupN l, .int (leftL rs ms B l)])), some (.d (intL ((List.range ms.length).map (sumOf B)))), c7, c8, some (.d (msgsD (restsM ms B))), c10, some (.d (.int (leftL rs ms B l))), some (.d (tupN l)), c13, c14, c15]) (st_for (it_list (ds := B.map entD) (ev_var rfl)) (fun _ j ρ => ∃ c7 c8 c13 c14 c15, ρ = [some (.d (.int (h : Int))), some (.d (rdsD rs)), some (.d (msgsD ms)), some (.d (entsD B)), some (.d (lotsD (ms.map fun m => heardL rs m.1))), some (.own (((lotsL h).take i).map fun l => PyData.tuple [tupN l, .int (leftL rs ms B l)])), some (.d (intL ((List.range ms.length).map (sumOf B)))), c7, c8, some (.d (msgsD (restsM ms B))), c10, some (.d (.int ((B.take j).foldl (leftStep rs ms l) (flowL rs l - needZ (restsM ms B) (ms.map fun m => heardL rs m.1) l ms.length)))), some (.d (tupN l)), c13, c14, c15]) ?_ ?_ ?_) ?_
      · rintro ds rfl
        exact ⟨c7, c8, c13, c14, c15, rfl⟩
      · rintro ds j d ρ rfl hd2 ⟨c7, c8, c13, c14, c15, rfl⟩
        rw [List.getElem?_map] at hd2
        cases hs2 : B[j]? with
        | none => rw [hs2] at hd2; cases hd2
        | some x =>
          rw [hs2] at hd2
          obtain ⟨n, row, t⟩ := x
          cases hd2
          obtain ⟨⟨h1, h2⟩, h3, h4⟩ := bo.ent _ (List.mem_of_getElem? hs2)
          dsimp only at h1 h2 h3 h4
          have hrow := h3.len
          have hlotn := ok.lot h1
          have hKl := hlotn.len hh
          have hel : (ends rs row).length = row.length := List.length_map _
          rw [foldl_take hs2]
          generalize hmv : (B.take j).foldl (leftStep rs ms l) (flowL rs l - needZ (restsM ms B) (ms.map fun m => heardL rs m.1) l ms.length) = mv
          have hhn : ((ms.map fun m : Msg => heardL rs m.1).map tupN)[n]? = some (tupN (heardL rs (md ms n).1)) := by
            rw [List.getElem?_map, List.getElem?_map, md_get h1]
            rfl
          refine ⟨_, _, tg_tup (tgs_cons tg_d (tgs_cons tg_d (tgs_cons tg_d tgs_nil))) rfl, ?_⟩
          refine sq_set (x := .d (listN (knowB rs ms (n, row, t)))) ((ev_cat (ds := natsL (md ms n).1) (es := natsL (ends rs row)) (ev_listS (ds := natsL (md ms n).1) (ev_ixTn (ds := [tupN (md ms n).1, .int (md ms n).2]) (ev_ixLn (ds := ms.map msgD) (ev_var rfl) (ev_var rfl) rfl (md_getD h1)) (ev_n 0) rfl) rfl) (ev_ends rfl (ev_var rfl) (by decide) (by show 7 < 16; decide) (fun a ha => (h3.2 a ha).1) (by omega)) rfl rfl (by rw [natsL_length, natsL_length]; omega)).is (by unfold knowB listN natsL; rw [List.map_append])) ?_
          refine st_seq (M := fun ρ => ρ = _) (st_ifB (po := ⟨fun ρ => ρ = [some (.d (.int (h : Int))), some (.d (rdsD rs)), some (.d (msgsD ms)), some (.d (entsD B)), some (.d (lotsD (ms.map fun m => heardL rs m.1))), some (.own (((lotsL h).take i).map fun l => PyData.tuple [tupN l, .int (leftL rs ms B l)])), some (.d (intL ((List.range ms.length).map (sumOf B)))), c7, some (.d (.int (n : Int))), some (.d (msgsD (restsM ms B))), c10, some (.d (.int (if (meetB l (heardL rs (md ms n).1) && !meetB l (knowB rs ms (n, row, t))) = true then mv - t else mv))), some (.d (tupN l)), some (.d (tupN row)), some (.d (.int t)), some (.d (listN (knowB rs ms (n, row, t))))], _, _, _⟩) (eb_and (eb_test (lmeet_call (d := tupN (heardL rs (md ms n).1)) (ev_var rfl) (ev_ixLn (ds := (ms.map fun m => heardL rs m.1).map tupN) (ev_var rfl) (ev_var rfl) rfl hhn) rfl (by omega))) fun _ => eb_not (eb_test (lmeet_call (d := listN (knowB rs ms (n, row, t))) (ev_var rfl) (ev_var rfl) rfl (by omega)))) (fun hc => st_set (x := .d (.int (mv - t))) (ev_sub (ev_var rfl) (ev_var rfl)) rfl (by show _ = _; rw [if_pos hc]; rfl)) fun hc => st_nx (by show _ = _; rw [if_neg (by rw [hc]; exact Bool.false_ne_true)]; rfl)) ?_
          rintro ρ rfl
          refine st_set (x := .d (.int (leftStep rs ms l mv (n, row, t)))) ((ev_sub (ev_var rfl) (ev_mul (j := (entCnt rs l row : Int)) (ev_var rfl) ((ev_len (ds := natsL (row.filter fun a => entL (rd rs a) l)) (ev_lc (l := row) (enc := fun a : Nat => PyData.int (a : Int)) (p := fun a => entL (rd rs a) l) (f := fun a : Nat => PyData.int (a : Int)) (it_tup (ev_var rfl)) (by omega) fun a ha => ⟨_, _, tg_d, by decide, eb_test (ev_call (ea_cons (ev_ixLn (ds := rdsL rs) (ev_var rfl) (ev_var rfl) rfl (rd_getD (h3.2 a ha).1)) (ea_cons (ev_var rfl) ea_nil)) ⟨rd rs a, l, rfl, rfl⟩), fun _ => ev_var rfl⟩) rfl).is (by rw [natsL_length]; rfl)) (.inr ?_))).is rfl) rfl ⟨c7, some (.d (.int (n : Int))), some (.d (tupN row)), some (.d (.int t)), some (.d (listN (knowB rs ms (n, row, t)))), rfl⟩
          have : entCnt rs l row ≤ row.length := List.length_filter_le _ _
          constructor <;> omega
      · rintro ds ρ rfl ⟨c7, c8, c13, c14, c15, rfl⟩
        rw [List.length_map, List.take_length]
        exact ⟨c7, c8, c13, c14, c15, rfl⟩
      rintro ρ ⟨c7, c8, c13, c14, c15, rfl⟩
      refine st_app rfl (ev_tup (ds := [tupN l, .int (leftL rs ms B l)]) (ea_cons (ev_var rfl) (ea_cons (ev_var rfl) ea_nil)) (by simp)) ?_ ⟨c7, c8, c10, some (.d (.int (leftL rs ms B l))), some (.d (tupN l)), c13, c14, c15, ?_⟩
      · rw [List.length_map, List.length_take]
        omega
      · rw [List.take_add_one, hs, Option.toList_some, List.map_append]
        rfl
  · rintro ds ρ rfl ⟨c7, c8, c10, c11, c12, c13, c14, c15, rfl⟩
    rw [List.length_map, List.take_length]
    exact ⟨c7, c8, c10, c11, c12, c13, c14, c15, rfl⟩
  rintro ρ ⟨c7, c8, c10, c11, c12, c13, c14, c15, rfl⟩
  exact st_retOwn rfl hQ
end TB
set_option Elab.async false
set_option linter.all false
set_option autoImplicit false
set_option maxRecDepth 100000
set_option maxHeartbeats 4000000
namespace TB
open PySem PySem.Spec PyProof.Rows L2
def tagN (n : Nat) (rows : List Rwx) : List Ent := rows.map fun r => (n, r.1, r.2)
def S__law_is_finish : SpD := fun xs P => ∃ (h : Nat) (rs : List Road) (ms : List Msg) (B : List Ent) (parts : List (List Rwx)) (new : List Ent), xs = [.d (rdsD rs), .d (msgsD ms), .d (entsD B), .d (.tuple [.list (parts.map rowsD), entsD new])] ∧ NewsOk h rs ms ∧ BegOk rs ms B ∧ FinOk rs ms B parts new ∧ new.length ≤ 1000 ∧ (∀ rows ∈ parts, rows.length ≤ 1000) ∧ P (.d (.bool true))
abbrev N__law_is_finish : List Str := ["_law_roads", "_law_messages", "_law_begun", "_law_value", "_law_parts", "_law_entries", "_law_some", "_law_number", "_law_row", "_law_times", "_law_rows_here", "_law_one", "_law_road"]
abbrev ps__law_is_finish : List Str := ["_law_roads", "_law_messages", "_law_begun", "_law_value"]
theorem sc__law_is_finish : FnScope N__law_is_finish ps__law_is_finish (defScope s_law_is_finish) := ⟨rfl, rfl, rfl, by decide +kernel, rfl, by decide +kernel, by decide +kernel⟩
theorem nd__law_is_finish : N__law_is_finish.Nodup := sc__law_is_finish.nd
theorem bd__law_is_finish : BindH "_law_is_finish" "_law_is_finish" ps__law_is_finish s_law_is_finish := fun _ _ _ _ _ _ us hl => match us, hl with | [_, _, _, _], _ => rfl
theorem ok__law_is_finish {P : Program} {w : World} {mg : Str → Option Value} {base : Heap} {g : Gb} (c : Txt g mg base) : FOk P w g.K mg base 6 "_law_is_finish" ps__law_is_finish (spOf g S__law_is_finish) := by
  have tx := txt_tx c
  refine FOk.mk' (h__law_is_finish c) sc__law_is_finish bd__law_is_finish (by intro xs Q h; unfold S__law_is_finish at h; (repeat' (rcases h with ⟨_, h⟩)); subst_vars; rfl) fun cdv A outer s H E hr => ⟨_, (pss_cons (ps_if (PW.pt (pw_or (pt_not (pt_val (pe_callB (cIsi g.K) (by rfl) tx.isinstance bt_isinstance (pa_cons (pv 3) (pa_cons (pe_bltn (v := .ty "tuple") (by rfl) tx.tuple bt_tuple rfl) pa_nil))))) (pw_or1 (pt_cmpR op_ne (pe_callB (cLen g.K) (by rfl) tx.len bt_len (pa_cons (pv 3) pa_nil)) pe_int (nomark _))))) (pss_one (ps_ret pe_bl)) pss_nil)
    (pss_cons (ps_asg (pv 3) (pgT g.K 2 (pgs_cons (pg_name (i := 4) nd__law_is_finish rfl (Or.inl rfl)) (pgs_cons (pg_name (i := 5) nd__law_is_finish rfl (Or.inl rfl)) pgs_nil))))
    (pss_cons (ps_if (PW.pt (pw_or (pt_not (pt_val (pe_callB (cIsi g.K) (by rfl) tx.isinstance bt_isinstance (pa_cons (pv 4) (pa_cons (pe_bltn (v := .ty "list") (by rfl) tx.list bt_list rfl) pa_nil))))) (pw_or (pt_not (pt_val (pe_callB (cIsi g.K) (by rfl) tx.isinstance bt_isinstance (pa_cons (pv 5) (pa_cons (pe_bltn (v := .ty "list") (by rfl) tx.list bt_list rfl) pa_nil))))) (pw_or1 (pt_cmpR op_ne (pe_callB (cLen g.K) (by rfl) tx.len bt_len (pa_cons (pv 4) pa_nil)) (pe_callB (cLen g.K) (by rfl) tx.len bt_len (pa_cons (pv 2) pa_nil)) (nomark _)))))) (pss_one (ps_ret pe_bl)) pss_nil)
    (pss_cons (ps_if (pt_cmpR (opNeD g.K hr.units) (pe_lc rfl nd__law_is_finish (piL g.K (pv 4)) (blkOk_by (own := [("_law_some", 6)]) (N := N__law_is_finish) (sc := defScope s_law_is_finish) (by decide +kernel)) (fun _ _ _ _ _ => (pg_name (i := 6) nd__law_is_finish rfl (Or.inl rfl))) (fun _ _ _ _ _ => (pts_one (pt_not (pt_val (pe_callB (cIsi g.K) (by rfl) tx.isinstance bt_isinstance (pa_cons (pv 6) (pa_cons (pe_bltn (v := .ty "list") (by rfl) tx.list bt_list rfl) pa_nil))))))) (fun _ _ _ _ _ => (pv 6))) (pe_lst pa_nil) (nomark _)) (pss_one (ps_ret pe_bl)) pss_nil)
    (pss_cons (ps_for PassesOwn.never rfl (piZip g.K tx.zip (pa_cons (pv 2) (pa_cons (pv 4) pa_nil))) (pgT g.K 2 (pgs_cons (pgT g.K 3 (pgs_cons (pg_name (i := 7) nd__law_is_finish rfl (Or.inr rfl)) (pgs_cons (pg_name (i := 8) nd__law_is_finish rfl (Or.inr rfl)) (pgs_cons (pg_name (i := 9) nd__law_is_finish rfl (Or.inl rfl)) pgs_nil)))) (pgs_cons (pg_name (i := 6) nd__law_is_finish rfl (Or.inl rfl)) pgs_nil))) (pss_cons (ps_setLc (i := 10) rfl nd__law_is_finish rfl rfl (sw_true rfl rfl rfl (by decide +kernel)) (piL g.K (pv 6)) (blkOk_by (own := [("_law_one", 11)]) (N := N__law_is_finish) (sc := defScope s_law_is_finish) (by decide +kernel)) (fun _ _ _ _ _ => (pg_name (i := 11) nd__law_is_finish rfl (Or.inl rfl))) (fun _ _ _ _ _ => pts_nil) (fun _ _ _ _ _ => (pe_ifExp (PW.pt (pw_and (pt_val (pe_callB (cIsi g.K) (by rfl) tx.isinstance bt_isinstance (pa_cons (pv 11) (pa_cons (pe_bltn (v := .ty "tuple") (by rfl) tx.tuple bt_tuple rfl) pa_nil)))) (pw_and1 (pt_cmpR op_eq (pe_callB (cLen g.K) (by rfl) tx.len bt_len (pa_cons (pv 11) pa_nil)) pe_int (nomark _))))) (pe_op (opCatT g.K) (pe_tup (pa_cons (pv 7) pa_nil)) (pv 11)) pe_non)))
    (pss_cons (ps_if (pt_cmpR (opNeD g.K hr.units) (pe_lc rfl nd__law_is_finish (piL g.K (pv 10)) (blkOk_by (own := [("_law_one", 11)]) (N := N__law_is_finish) (sc := defScope s_law_is_finish) (by decide +kernel)) (fun _ _ _ _ _ => (pg_name (i := 11) nd__law_is_finish rfl (Or.inl rfl))) (fun _ _ _ _ _ => (pts_one (PW.pt (pw_or (pt_not (pt_val (pe_callF (ok__law_is_entry c) (hr.mono (by decide)) (pa_cons (pe_callB (cLen g.K) (by rfl) tx.len bt_len (pa_cons (pv 1) pa_nil)) (pa_cons (pv 11) pa_nil))))) (pw_or1 (pt_not (pt_val (pe_callB (cIsi g.K) (by rfl) tx.isinstance bt_isinstance (pa_cons (pe_ix (ixT g.K) (pv 11) pe_int (fun _ _ => rfl)) (pa_cons (pe_bltn (v := .ty "tuple") (by rfl) tx.tuple bt_tuple rfl) pa_nil)))))))))) (fun _ _ _ _ _ => (pv 11))) (pe_lst pa_nil) (nomark _)) (pss_one (ps_ret pe_bl)) pss_nil)
    (pss_cons (ps_if (pt_cmpR (opNeD g.K hr.units) (pe_lc rfl nd__law_is_finish (piL g.K (pv 10)) (blkOk_by (own := [("_law_one", 11)]) (N := N__law_is_finish) (sc := defScope s_law_is_finish) (by decide +kernel)) (fun _ _ _ _ _ => (pg_name (i := 11) nd__law_is_finish rfl (Or.inr rfl))) (fun _ _ _ _ _ => (pts_one (pt_cmpR (opNeD g.K hr.units) (pe_lc rfl nd__law_is_finish (piT g.K (pv 8)) (blkOk_by (own := [("_law_road", 12)]) (by kernel_rfl)) (fun _ _ _ _ _ => (pg_name (i := 12) nd__law_is_finish rfl (Or.inl rfl))) (fun _ _ _ _ _ => (pts_one (pt_cmpR (opNIn g.K) (pv 12) (pe_ix (ixT g.K) (pv 11) pe_int (fun _ _ => rfl)) (by rfl)))) (fun _ _ _ _ _ => (pv 12))) (pe_lst pa_nil) (nomark _)))) (fun _ _ _ _ _ => (pv 11))) (pe_lst pa_nil) (nomark _)) (pss_one (ps_ret pe_bl)) pss_nil)
    (pss_cons (ps_if (pt_cmpR op_ne (pe_callB (cSum g.K rfl) (by rfl) tx.sum bt_sum (pa_cons (pe_lc rfl nd__law_is_finish (piL g.K (pv 10)) (blkOk_by (own := [("_law_one", 11)]) (N := N__law_is_finish) (sc := defScope s_law_is_finish) (by decide +kernel)) (fun _ _ _ _ _ => (pg_name (i := 11) nd__law_is_finish rfl (Or.inl rfl))) (fun _ _ _ _ _ => pts_nil) (fun _ _ _ _ _ => (pe_ix (ixT g.K) (pv 11) pe_int (fun _ _ => rfl)))) pa_nil)) (pv 9) (nomark _)) (pss_one (ps_ret pe_bl)) pss_nil)
    (pss_one (ps_set (i := 5) nd__law_is_finish rfl (Or.inl rfl) (pe_op op_cat (pv 5) (pv 10)))))))))
    (pss_one (ps_ret (pe_callF (ok__law_is_plan c) (hr.mono (by decide)) (pa_cons (pv 0) (pa_cons (pv 1) (pa_cons (pv 5) pa_nil))))))))))), ?_⟩
  rintro xs Q ⟨h, rs, ms, B, parts, new, rfl, ok, bo, fo, hn, hp, hQ⟩
  have hb := bo.few
  have hm := ok.few
  have hrl := ok.net.many
  have hpl := fo.len
  have zl : (List.zip B parts).length ≤ 6 := by rw [List.length_zip]; omega
  have in3 : Ev g (tVar 3) (startR N__law_is_finish [.d (rdsD rs), .d (msgsD ms), .d (entsD B), .d (.tuple [.list (parts.map rowsD), entsD new])]) (.d (.tuple [.list (parts.map rowsD), entsD new])) := ev_var rfl
  refine sq_no (b := false) ((eb_or (eb_not (eb_test (ev_isi in3 rfl rfl))) fun _ => eb_test (ev_neN (ev_len in3 rfl) (ev_n 2))).is rfl) rfl ?_
  refine sq_asg (P := fun y => y = .d (.tuple [.list (parts.map rowsD), entsD new])) (ev_var rfl) ?_
  rintro y rfl
  refine ⟨_, _, tg_tup (tgs_cons tg_d (tgs_cons tg_d tgs_nil)) rfl, ?_⟩
  refine sq_no (b := false) ((eb_or (eb_not (eb_test (ev_isi (ev_var rfl) rfl rfl))) fun _ => eb_or (eb_not (eb_test (ev_isi (ev_var rfl) rfl rfl))) fun _ => eb_test (ev_neN ((ev_len (ds := parts.map rowsD) (ev_var rfl) rfl).is (by rw [List.length_map])) ((ev_len (ds := B.map entD) (ev_var rfl) rfl).is (by rw [List.length_map])))).is (by simp [hpl])) rfl ?_
  refine sq_no (eb_none (ev_lc0 (l := parts) (enc := rowsD) (it_list (ev_var rfl)) (by omega) fun p hpp => ⟨_, _, tg_d, by decide, (eb_not (eb_test (ev_isi (x := .d (rowsD p)) (b := true) (ev_var rfl) rfl rfl))).is rfl⟩)) rfl ?_
  refine st_seq (M := fun ρ => ∃ c6 c7 c8 c9 c10 c11 c12, ρ = [some (.d (rdsD rs)), some (.d (msgsD ms)), some (.d (entsD B)), some (.d (.tuple [.list (parts.map rowsD), entsD new])), some (.d (.list (parts.map rowsD))), some (.d (entsD (new ++ tagged B parts))), c6, c7, c8, c9, c10, c11, c12]) (st_for (it_zipM (a := B) (b := parts) (f := entD) (k := rowsD) (ev_var rfl) (ev_var rfl))
    (fun _ i ρ => ∃ c6 c7 c8 c9 c10 c11 c12, ρ = [some (.d (rdsD rs)), some (.d (msgsD ms)), some (.d (entsD B)), some (.d (.tuple [.list (parts.map rowsD), entsD new])), some (.d (.list (parts.map rowsD))), some (.d (entsD (new ++ taggedTo B parts i))), c6, c7, c8, c9, c10, c11, c12]) ?_ ?_ ?_) ?_
  · rintro ds rfl
    refine ⟨none, none, none, none, none, none, none, ?_⟩
    have : taggedTo B parts 0 = [] := rfl
    rw [this, List.append_nil]
    rfl
  · rintro ds i d ρ rfl hd ⟨c6, c7, c8, c9, c10, c11, c12, rfl⟩
    rw [List.getElem?_map] at hd
    cases hz : (List.zip B parts)[i]? with
    | none => rw [hz] at hd; cases hd
    | some p =>
      rw [hz] at hd
      obtain ⟨⟨n, row, t⟩, rows⟩ := p
      cases hd
      have hrl := hp rows ((List.of_mem_zip (List.mem_of_getElem? hz)).2)
      have htl := taggedTo_len (B := B) hp i
      have hi6 : i < 6 := by
        have := (List.getElem?_eq_some_iff.mp hz).1
        omega
      have hzz := hz
      rw [List.getElem?_zip_eq_some] at hzz
      obtain ⟨z1, z2⟩ := hzz
      obtain ⟨q1, q2⟩ := fo.part i _ _ z1 z2
      dsimp only at q1 q2 z1 z2
      obtain ⟨⟨b1, b2⟩, b3, b4⟩ := bo.ent _ (List.mem_of_getElem? z1)
      dsimp only at b1 b2 b3 b4
      have hrowl := b3.len
      refine ⟨_, _, tg_tup (tgs_cons (tg_tup (tgs_cons tg_d (tgs_cons tg_d (tgs_cons tg_d tgs_nil))) rfl) (tgs_cons tg_d tgs_nil)) rfl, ?_⟩
      refine sq_set (x := .d (entsD (tagN n rows))) ((ev_lcA (l := rows) (enc := rwD) (f := fun r : Rwx => entD (n, r.1, r.2)) (it_list (ev_var rfl)) (by omega) fun r hr => ⟨_, _, tg_d, by decide, (ev_if (b := true) (y := .d .none) ((eb_and (eb_test (ev_isi (x := .d (rwD r)) (ev_var rfl) rfl rfl)) fun _ => eb_test (ev_eqN (ev_len (x := .d (rwD r)) (ds := [tupN r.1, .int r.2]) (ev_var rfl) rfl) (ev_n 2))).is rfl) (fun _ => ev_catT (ds := [.int (n : Int)]) (es := [tupN r.1, .int r.2]) (ev_tup (ds := [.int (n : Int)]) (ea_cons (ev_var rfl) ea_nil) (by simp)) (ev_var rfl) (by simp)) fun z => by cases z).is rfl⟩).is (by unfold entsD tagN; rw [List.map_map]; rfl)) ?_
      have htl2 : (tagN n rows).length = rows.length := List.length_map _
      have tg1 : ∀ e ∈ tagN n rows, e.1 = n ∧ 1 ≤ e.2.2 ∧ ∀ a ∈ row, a ∈ e.2.1 := fun e he => by
        obtain ⟨r, hr, rfl⟩ := List.mem_map.mp he
        exact ⟨rfl, q1 r hr⟩
      refine sq_no (eb_none (ev_lc0 (l := tagN n rows) (enc := entD) (it_list (ev_var rfl)) (by omega) fun e he => ⟨_, _, tg_d, by decide, (eb_or (eb_not (eb_test (lis_entry (e := e) ((ev_len (ds := ms.map msgD) (ev_var rfl) rfl).is (by rw [List.length_map])) (ev_var rfl) (by rw [(tg1 e he).1]; exact b1) (by omega) (tg1 e he).2.1))) fun _ => eb_not (eb_test (ev_isi (x := .d (tupN e.2.1)) (ev_ixTn (ds := [.int (e.1 : Int), tupN e.2.1, .int e.2.2]) (ev_var rfl) (ev_n 1) rfl) rfl rfl))).is rfl⟩)) rfl ?_
      refine sq_no (eb_none (ev_lc0 (l := tagN n rows) (enc := entD) (it_list (ev_var rfl)) (by omega) fun e he => ⟨_, _, tg_d, by decide, eb_none (ev_lc0 (l := row) (enc := fun a : Nat => PyData.int (a : Int)) (it_tup (ev_var rfl)) (by omega) fun a ha => ⟨_, _, tg_d, by decide, (eb_test (ev_ninN (ns := e.2.1) (ev_var rfl) (ev_ixTn (ds := [.int (e.1 : Int), tupN e.2.1, .int e.2.2]) (ev_var rfl) (ev_n 1) rfl) rfl)).is (by rw [decide_eq_true ((tg1 e he).2.2 a ha)]; rfl)⟩)⟩)) rfl ?_
      refine sq_no (b := false) ((eb_test (ev_neI (i := t) (ev_sum (ns := (tagN n rows).map fun e => e.2.2) (ev_lcA (l := tagN n rows) (enc := entD) (f := fun e : Ent => PyData.int e.2.2) (it_list (ev_var rfl)) (by omega) fun e he => ⟨_, _, tg_d, by decide, ev_ixTn (ds := [.int (e.1 : Int), tupN e.2.1, .int e.2.2]) (ev_var rfl) (ev_n 2) rfl⟩) (by rw [List.map_map]; rfl) |>.is ?_) (ev_var rfl))).is (by simp)) rfl ?_
      · unfold tagN
        rw [List.map_map, ← q2]
        rfl
      · refine st_set (x := .d (entsD (new ++ taggedTo B parts i ++ tagN n rows))) ((ev_cat (ds := (new ++ taggedTo B parts i).map entD) (es := (tagN n rows).map entD) (ev_var rfl) (ev_var rfl) rfl rfl ?_).is (by unfold entsD; rw [List.map_append (l₁ := new ++ taggedTo B parts i)])) rfl ⟨some (.d (rowsD rows)), some (.d (.int (n : Int))), some (.d (tupN row)), some (.d (.int t)), some (.d (entsD (tagN n rows))), c11, c12, ?_⟩
        · rw [List.length_map, List.length_map, List.length_append]
          omega
        · rw [taggedTo_succ hz, ← List.append_assoc]
          rfl
  · rintro ds ρ rfl ⟨c6, c7, c8, c9, c10, c11, c12, rfl⟩
    rw [List.length_map, taggedTo_all]
    exact ⟨c6, c7, c8, c9, c10, c11, c12, rfl⟩
  · rintro ρ ⟨c6, c7, c8, c9, c10, c11, c12, rfl⟩
    refine st_ret (ev_call (ea_cons (ev_var rfl) (ea_cons (ev_var rfl) (ea_cons (ev_var rfl) ea_nil))) ⟨h, rs, ms, new ++ tagged B parts, rfl, ok, fo.plan, ?_, rfl⟩) hQ
    rw [List.length_append, ← taggedTo_all]
    have := taggedTo_len (B := B) hp (List.zip B parts).length
    omega
end TB
set_option Elab.async false
set_option linter.all false
set_option autoImplicit false
set_option maxRecDepth 100000
set_option maxHeartbeats 4000000
namespace TB
open PySem PySem.Spec PyProof.Rows L2
theorem set_same {α : Type} {l : List α} {i : Nat} {s : α} (h : l[i]? = some s) : l.set i s = l := by
  refine List.ext_getElem? fun j => ?_
  by_cases e : i = j
  · subst e
    rw [List.getElem?_set_self (List.getElem?_eq_some_iff.mp h).1, h]
  · rw [List.getElem?_set_ne e]
/-- slots that hold frozen things, from here on -/
theorem Ew.mk0 {g : Gb} {lf : Option Addr} {F H : Hp} {σ : St} {ρ : Rho} (w : Wl g lf F H) (ln : σ.length = ρ.length) (bd : ∀ (i : Nat) x, ρ[i]? = some (some x) → ∃ v, σ[i]? = some (some v) ∧ Fx g.K F v x) : Ew g ⟨lf, F, H⟩ σ F H ρ :=
  ⟨Gr.refl w, w, ln, fun i x h => by
    obtain ⟨v, h1, h2⟩ := bd i x h
    exact ⟨v, h1, Fx.rx h2.fz h2⟩, fun i j xs ys n h1 h2 => by
    obtain ⟨v, _, h3⟩ := bd i _ h1
    exact h3.elim⟩
theorem Ew.put {g : Gb} {e : En} {σ : St} {F H : Hp} {ρ : Rho} (E : Ew g e σ F H ρ) {i : Nat} {v : V} {x : Dx} (hs : σ[i]? = some (some v)) (hx : Rx g e F H v x) (hz : ∀ xs, x ≠ .own xs) : Ew g e σ F H (ρ.set i (some x)) := by
  have := E.set (i := i) hx hz
  rwa [set_same hs] at this
theorem Ew.blank {g : Gb} {lf : Option Addr} {F H : Hp} (w : Wl g lf F H) (σ : St) {n : Nat} (hn : σ.length = n) : Ew g ⟨lf, F, H⟩ σ F H (List.replicate n none) := Ew.mk0 w (by rw [List.length_replicate, hn]) fun i x h => by
  rw [List.getElem?_replicate] at h
  split at h
  · cases h
  · cases h
theorem sql_gr {g : Gb} {F H F' H' : Hp} {a : Addr} {xs : List V} (r : Gr g none F H F' H') (w : Wl g none F H) (h : SqL g.K H a xs) : SqL g.K H' a xs := by
  rcases h with h | h
  · have aT : a ≠ g.T := fun z => by
      obtain ⟨ps, hT⟩ := w.tbl
      rcases h with h | ⟨o, h⟩
      · rw [z, hT] at h; cases h
      · rw [z, hT] at h; cases h
    rcases h with h | ⟨o, h⟩
    · exact .inl (.inl (r.hh a _ aT (fun z => nomatch z) h))
    · exact .inl (.inr ⟨o, r.hh a _ aT (fun z => nomatch z) h⟩)
  · exact .inr h
/-- a new feed; the script may be any list that can be read -/
def spFeed (g : Gb) : Sp := fun vs H Q _ => ∃ (F : Hp) (a : Addr) (ns : List Int) (k : Nat), Wl g none F H ∧ vs = [.ref a, .int ((k : Nat) : Int)] ∧ SqL g.K H a (ns.map V.int) ∧ k < 100 ∧ ns.length ≤ 1000 ∧ ∀ p x y F' H', Gr g none F H F' H' → F' p = none → H p = none → H' p = some (.lst [.int x, .int y]) → FeedOk x y → Q (.ref p) H'
theorem d_own {d : PyData} : ∀ xs, Dx.d d ≠ .own xs := fun _ z => nomatch z
theorem rq_val {D : Ends} {R : TS} {te : TE} {i : Nat} {σ : St} {H : Hp} (h : te σ H fun v H1 => R D (σ.set i (some v)) H1) : tSeq (tAsg te (gName i)) R D σ H := h
theorem rq_ret {D : Ends} {te : TE} {σ : St} {H : Hp} (h : te σ H D.rt) : tRet te D σ H := h
abbrev N__law_feed : List Str := ["_law_script", "_law_k", "_law_seed", "_law_digits"]
abbrev ps__law_feed : List Str := ["_law_script", "_law_k"]
theorem sc__law_feed : FnScope N__law_feed ps__law_feed (defScope s_law_feed) := ⟨rfl, rfl, rfl, by decide +kernel, rfl, by decide +kernel, by decide +kernel⟩
theorem nd__law_feed : N__law_feed.Nodup := sc__law_feed.nd
theorem bd__law_feed : BindH "_law_feed" "_law_feed" ps__law_feed s_law_feed := fun _ _ _ _ _ _ us hl => match us, hl with | [_, _], _ => rfl
theorem ok__law_feed {P : Program} {w : World} {mg : Str → Option Value} {base : Heap} {g : Gb} (c : Txt g mg base) : FOk P w g.K mg base 1 "_law_feed" ps__law_feed (spFeed g) := by
  have tx := txt_tx c
  refine FOk.raw (h__law_feed c) sc__law_feed bd__law_feed (fun vs H Q E h => ?_) fun cdv A outer s H E hr => ⟨_, (pss_cons (ps_set (i := 2) nd__law_feed rfl (Or.inl rfl) (pe_ix (ixL g.K) (pe_op op_cat (pe_callTy (cList g.K) (by rfl) tx.list bt_list (pa_cons (pe_slice (slL g.K) (pv 0) (po_some (pv 1)) (po_some (pe_op op_add (pv 1) pe_int))) pa_nil)) (pe_lst (pa_cons (pe_op op_add (pe_op op_mul pe_int (pv 1)) pe_int) pa_nil))) pe_int (fun _ _ => rfl)))
    (pss_cons (ps_set (i := 3) nd__law_feed rfl (Or.inl rfl) (pe_callB (cMax2 rfl) (by rfl) tx.max bt_max (pa_cons pe_int (pa_cons (pe_op op_sub (pe_callB cAbs (by rfl) tx.abs bt_abs (pa_cons (pv 2) pa_nil)) (pe_op op_pow pe_int pe_int)) pa_nil))))
    (pss_one (ps_ret (pe_lst (pa_cons (pv 3) (pa_cons (pe_op op_mod (pe_callTy cInt (by rfl) tx.int bt_int (pa_cons (pe_op op_add (pe_op op_add (pe_op op_mul (pe_op op_mod (pe_callTy cInt (by rfl) tx.int bt_int (pa_cons (pe_callB cAbs (by rfl) tx.abs bt_abs (pa_cons (pv 2) pa_nil)) pa_nil)) pe_int) pe_int) (pe_op op_mul pe_int (pv 1))) pe_int) pa_nil)) pe_int) pa_nil))))))), ?_⟩
  · obtain ⟨F, a, ns, k, _, e, _⟩ := h
    rw [e]
    rfl
  rintro vs H0 Q E' ⟨F0, a, ns, k, w0, rfl, hsq, hk, hl, hQ⟩
  have E0 : Ew g ⟨none, F0, H0⟩ (L2.start N__law_feed [.ref a, .int (k : Int)]) F0 H0 [none, some (.d (.int (k : Int))), none, none] := Ew.put (i := 1) (v := .int (k : Int)) (x := .d (.int (k : Int))) (Ew.blank (n := 4) w0 (L2.start N__law_feed [.ref a, .int (k : Int)]) rfl) rfl (rx_d (Dq.int _)) d_own
  have hcl : ((cutD (ns.map .int) (some (k : Int)) (some ((k : Int) + 1)))).length ≤ 1000 := by
    unfold cutD
    rw [List.length_take, List.length_drop, List.length_map]
    omega
  obtain ⟨i, hi⟩ : ∃ i : Int, (cutD (ns.map .int) (some (k : Int)) (some ((k : Int) + 1)) ++ [PyData.int (71 * (k : Int) + 23)])[0]? = some (.int i) := by
    cases hc : cutD (ns.map PyData.int) (some (k : Int)) (some ((k : Int) + 1)) with
    | nil => exact ⟨_, rfl⟩
    | cons d ds =>
      have hm : d ∈ ns.map PyData.int := by
        have : d ∈ cutD (ns.map PyData.int) (some (k : Int)) (some ((k : Int) + 1)) := by rw [hc]; exact List.mem_cons_self
        unfold cutD at this
        exact List.mem_of_mem_drop (List.mem_of_mem_take this)
      obtain ⟨i, _, rfl⟩ := List.mem_map.mp hm
      exact ⟨i, rfl⟩
  have ev0 : Ev g (fun σ H Q => (σ[0]? = some (some (.ref a)) ∧ SqL g.K H a (ns.map V.int)) → tSl (rSlL g.K) (tVar 0) (tPart (tVar 1)) (tPart (tOp (rI0 fun i j => V.int (i + j)) (tVar 1) (tC (V.int 1)))) σ H Q) [none, some (.d (.int (k : Int))), none, none] (.d (.list (cutD (ns.map .int) (some (k : Int)) (some ((k : Int) + 1))))) := fun e σ F H E Q q hyp => by
    obtain ⟨h1, h2⟩ := hyp
    obtain ⟨v1, hv1, rx⟩ := E.bd 1 _ rfl
    have e1 : v1 = .int (k : Int) := Dq.int_eq rx
    rw [e1] at hv1
    exact ⟨.ref a, h1, .int (k : Int), hv1, (k : Int), rfl, .int (k : Int), hv1, (k : Int), 1, rfl, rfl, (k : Int) + 1, rfl, a, ns.map V.int, rfl, h2, fun p hp => q _ _ _ _ (Gr.new E.wl hp) (rx_d (Dq.lst upd_same (((DqAll.of_ints ns).cut _ _).mono (Gr.new (o := .lst _) E.wl hp).ff))) rfl⟩
  refine rq_val ((ev_ixLn (n := 0) (ds := cutD (ns.map .int) (some (k : Int)) (some ((k : Int) + 1)) ++ [.int (71 * (k : Int) + 23)]) (ev_cat (ds := cutD (ns.map .int) (some (k : Int)) (some ((k : Int) + 1))) (es := [.int (71 * (k : Int) + 23)]) (ev_listS (ds := cutD (ns.map .int) (some (k : Int)) (some ((k : Int) + 1))) ev0 rfl) (ev_lst (ds := [.int (71 * (k : Int) + 23)]) (ed_cons (ev_add (ev_mul ev_int (ev_var rfl) (.inl ⟨by decide, by decide⟩)) ev_int) ed_nil) (by simp)) rfl rfl (by simp; omega)) (ev_n 0) rfl hi) _ _ _ _ E0 _ (fun v F1 H1 x1 r1 rx1 p1 => ?_) ⟨rfl, hsq⟩)
  subst p1
  have E1 : Ew g ⟨none, F0, H0⟩ _ F1 H1 [none, some (.d (.int (k : Int))), some (.d (.int i)), none] := (E0.grow r1).set (i := 2) rx1 d_own
  have hab : 0 ≤ (if i < 0 then -i else i) := by split <;> omega
  generalize hai : (if i < 0 then -i else i) = ai at hab
  refine rq_st (M := fun ρ => ρ = [none, some (.d (.int (k : Int))), some (.d (.int i)), some (.d (.int (if ai - 10 ^ 18 > 0 then ai - 10 ^ 18 else 0)))]) E1 (st_set (ev_max2 (i := 0) (j := ai - 10 ^ 18) ev_int (ev_sub ((ev_abs (ev_var rfl)).is (by rw [← hai])) (ev_ten 18 18 rfl (by decide)))) rfl rfl) ?_
  rintro σ2 F2 H2 _ s2 E2 rfl
  have hm : 0 ≤ (ai % 1000003 * 7919 + 31 * (k : Int) + 17) % 1000033 ∧ (ai % 1000003 * 7919 + 31 * (k : Int) + 17) % 1000033 < 1000033 := ⟨Int.emod_nonneg _ (by decide), Int.emod_lt_of_pos _ (by decide)⟩
  refine ew_lst (ds := [.int (if ai - 10 ^ 18 > 0 then ai - 10 ^ 18 else 0), .int ((ai % 1000003 * 7919 + 31 * (k : Int) + 17) % 1000033)]) (ed_cons (ev_var rfl) (ed_cons (ev_mod (ev_intI (ev_add (ev_add (ev_mul (ev_mod (ev_intI ((ev_abs (ev_var rfl)).is (by rw [← hai]))) ev_int (by decide)) ev_int (.inr ⟨by decide, by decide⟩)) (ev_mul ev_int (ev_var rfl) (.inl ⟨by decide, by decide⟩))) ev_int)) ev_int (by decide)) ed_nil)) (by simp) _ _ _ _ E2 _ fun p us F' H' gr o hp q => ?_
  have hH := o.h
  have hus : us = [.int (if ai - 10 ^ 18 > 0 then ai - 10 ^ 18 else 0), .int ((ai % 1000003 * 7919 + 31 * (k : Int) + 17) % 1000033)] := q.ints (ns := [(if ai - 10 ^ 18 > 0 then ai - 10 ^ 18 else 0), ((ai % 1000003 * 7919 + 31 * (k : Int) + 17) % 1000033)])
  rw [hus] at hH
  exact hQ p _ _ F' H' (E2.gr.trans w0 gr) o.f o.h0 hH ⟨by split <;> omega, hm.1, by omega⟩
end TB
set_option Elab.async false
set_option linter.all false
set_option autoImplicit false
set_option maxRecDepth 100000
set_option maxHeartbeats 4000000
namespace TB
open PySem PySem.Spec PyProof.Rows L2
/-! ### what may be shown -/
structure Sh (n w : Nat) (d : PyData) : Prop where
  sh : d.showable = true
  nd : d.hasDict = false
  ls : d.leavesShort 14 = true
  dp : d.depth ≤ n
  wt : d.weight ≤ w
theorem Sh.mono {n n' w w' : Nat} {d : PyData} (h : Sh n w d) (h1 : n ≤ n') (h2 : w ≤ w') : Sh n' w' d := ⟨h.sh, h.nd, h.ls, Nat.le_trans h.dp h1, Nat.le_trans h.wt h2⟩
theorem log2_small {m k : Nat} (h : m < 2 ^ k) (hk : 0 < k) : m.log2 < k := by
  by_cases h0 : m = 0
  · subst h0
    simpa using hk
  · exact (Nat.log2_lt h0).mpr h
theorem Sh.int {i : Int} (h : i.natAbs < 10 ^ 13) : Sh 0 44 (.int i) := by
  have h44 : i.natAbs < 2 ^ 44 := Nat.lt_trans h (by decide)
  have hl := log2_small h44 (by decide)
  refine ⟨?_, rfl, ?_, Nat.le_refl _, ?_⟩
  · show decide (i.natAbs.log2 < 1920) = true
    exact decide_eq_true (by omega)
  · show decide ((PyData.shown (.int i)).length ≤ 14) = true
    refine decide_eq_true ?_
    have e := int_text_length_le10 (k := 13) (by decide) h
    show (Str.ofString (toString i)).length ≤ 14
    rw [PySem.ofString_length]
    exact e
  · show (if i == 0 then 0 else i.natAbs.log2 + 1) ≤ 44
    split <;> omega
theorem Sh.none : Sh 0 44 .none := ⟨rfl, rfl, rfl, Nat.le_refl _, Nat.zero_le _⟩
theorem Sh.all {n : Nat} {f : PyData → Nat} : ∀ {ds : List PyData}, (∀ d ∈ ds, Sh n (f d) d) → PyData.showableAll ds = true ∧ PyData.hasDictAll ds = false ∧ PyData.leavesShortAll 14 ds = true ∧ PyData.depthAll ds ≤ n ∧ PyData.weightAll ds ≤ (ds.map fun d => f d + 1).sum
  | [], _ => ⟨rfl, rfl, rfl, Nat.zero_le _, Nat.le_refl _⟩
  | d :: ds, h => by
    obtain ⟨h1, h2, h3, h4, h5⟩ := Sh.all (ds := ds) fun x hx => h x (List.mem_cons_of_mem _ hx)
    have a := h d List.mem_cons_self
    refine ⟨?_, ?_, ?_, ?_, ?_⟩
    · simp only [PyData.showableAll, a.sh, h1, Bool.and_self]
    · simp only [PyData.hasDictAll, a.nd, h2, Bool.or_self]
    · simp only [PyData.leavesShortAll, a.ls, h3, Bool.and_self]
    · simp only [PyData.depthAll]
      have := a.dp
      omega
    · simp only [PyData.weightAll, List.map_cons, List.sum_cons]
      have := a.wt
      omega
theorem Sh.listW {n : Nat} {f : PyData → Nat} {ds : List PyData} (h : ∀ d ∈ ds, Sh n (f d) d) : Sh (n + 1) (ds.map fun d => f d + 1).sum (.list ds) := by
  obtain ⟨h1, h2, h3, h4, h5⟩ := Sh.all h
  exact ⟨h1, h2, h3, Nat.succ_le_succ h4, h5⟩
theorem Sh.tupleW {n : Nat} {f : PyData → Nat} {ds : List PyData} (h : ∀ d ∈ ds, Sh n (f d) d) : Sh (n + 1) (ds.map fun d => f d + 1).sum (.tuple ds) := by
  obtain ⟨h1, h2, h3, h4, h5⟩ := Sh.all h
  exact ⟨h1, h2, h3, Nat.succ_le_succ h4, h5⟩
theorem sum_const {α : Type} (l : List α) (c : Nat) : (l.map fun _ => c).sum = l.length * c := by
  induction l with
  | nil => simp
  | cons a l ih => rw [List.map_cons, List.sum_cons, ih, List.length_cons, Nat.succ_mul]; omega
theorem Sh.list {n w : Nat} {ds : List PyData} (h : ∀ d ∈ ds, Sh n w d) : Sh (n + 1) (ds.length * (w + 1)) (.list ds) := by
  have := Sh.listW (f := fun _ => w) h
  rwa [sum_const] at this
theorem Sh.tuple {n w : Nat} {ds : List PyData} (h : ∀ d ∈ ds, Sh n w d) : Sh (n + 1) (ds.length * (w + 1)) (.tuple ds) := by
  have := Sh.tupleW (f := fun _ => w) h
  rwa [sum_const] at this
theorem Sh.len {n w : Nat} {d : PyData} (h : Sh n w d) (hw : w ≤ 1000000) : d.shown.length ≤ sizeLine := by
  have h1 := PyData.shown_le 14 (by decide) d h.ls
  have h2 := h.wt
  have h3 : (16 : Nat) * 1000000 + 14 ≤ sizeLine := by decide
  have h4 : (14 + 2) * d.weight ≤ 16 * 1000000 := Nat.mul_le_mul (by decide) (by omega)
  omega
theorem sh_tupN {row : List Nat} (h : ∀ a ∈ row, a < 1000) (hl : row.length ≤ 12) : Sh 1 540 (tupN row) := by
  refine (Sh.tuple (n := 0) (w := 44) fun d hd => ?_).mono (Nat.le_refl _) (by rw [natsL_length]; exact Nat.mul_le_mul hl (Nat.le_refl 45))
  obtain ⟨a, ha, rfl⟩ := List.mem_map.mp hd
  exact Sh.int (by rw [Int.natAbs_natCast]; have := h a ha; exact Nat.lt_trans this (by decide))
theorem sh_rw {r : Rwx} (h : ∀ a ∈ r.1, a < 1000) (hl : r.1.length ≤ 12) (h2 : 0 ≤ r.2 ∧ r.2 ≤ 1000000000000) : Sh 2 1082 (rwD r) := by
  refine (Sh.tuple (n := 1) (w := 540) (ds := [tupN r.1, .int r.2]) fun d hd => ?_).mono (Nat.le_refl _) (Nat.le_refl _)
  simp only [List.mem_cons, List.not_mem_nil, or_false] at hd
  rcases hd with rfl | rfl
  · exact sh_tupN h hl
  · exact (Sh.int (by omega)).mono (by decide) (by decide)
theorem sh_ent {e : Ent} (h0 : e.1 < 1000) (h : ∀ a ∈ e.2.1, a < 1000) (hl : e.2.1.length ≤ 12) (h2 : 0 ≤ e.2.2 ∧ e.2.2 ≤ 1000000000000) : Sh 2 1623 (entD e) := by
  refine (Sh.tuple (n := 1) (w := 540) (ds := [.int (e.1 : Int), tupN e.2.1, .int e.2.2]) fun d hd => ?_).mono (Nat.le_refl _) (Nat.le_refl _)
  simp only [List.mem_cons, List.not_mem_nil, or_false] at hd
  rcases hd with rfl | rfl | rfl
  · exact (Sh.int (by omega)).mono (by decide) (by decide)
  · exact sh_tupN h hl
  · exact (Sh.int (by omega)).mono (by decide) (by decide)
section
variable {g : Gb} {ρ : Rho} {ta : TE} {x : Dx}
/-- repr(a list or a tuple) -/
theorem ev_repr {n w : Nat} {d : PyData} (ha : Ev g ta ρ (.d d)) (hs : Sh n w d) (hn : n ≤ 40) (hw : w ≤ 1000000) (hd : (∃ ds, d = .list ds) ∨ ∃ ds, d = .tuple ds) : Ev g (tCB (rRepr g.K) (tCons ta tNil)) ρ (.d (.str d.shown)) :=
  evp_cb1 ha fun e σ F H v a E xa pa Q q => by
    subst pa
    have hv : ∃ l, v = .ref l := by
      rcases hd with ⟨ds, rfl⟩ | ⟨ds, rfl⟩
      · obtain ⟨l, _, e, _⟩ := Dq.lst_of xa
        exact ⟨l, e⟩
      · obtain ⟨l, _, e, _⟩ := Dq.tup_of xa
        exact ⟨l, e⟩
    obtain ⟨l, rfl⟩ := hv
    exact ⟨l, d, rfl, Dq.dp (Dq.mono E.wl.same xa), hs.sh, hs.nd, Nat.le_trans hs.dp hn, hs.len hw, q _ F H _ (Gr.refl E.wl) (rx_d (Dq.str _)) rfl⟩
theorem ev_eqS {tb : TE} {a b : Str} (ha : Ev g ta ρ (.d (.str a))) (hb : Ev g tb ρ (.d (.str b))) : Ev g (tOp rEq ta tb) ρ (.d (.bool (decide (a = b)))) := (ev_eq ha hb rfl rfl rfl).is (by congr 2; simp)
theorem ev_neS {tb : TE} {a b : Str} (ha : Ev g ta ρ (.d (.str a))) (hb : Ev g tb ρ (.d (.str b))) : Ev g (tOp rNe ta tb) ρ (.d (.bool (!decide (a = b)))) := (ev_ne ha hb rfl rfl rfl).is (by congr 3; simp)
end
end TB
set_option Elab.async false
set_option linter.all false
set_option autoImplicit false
set_option maxRecDepth 100000
set_option maxHeartbeats 4000000
namespace TB
open PySem PySem.Spec PyProof.Rows L2
theorem ev_notB {g : Gb} {ta tb : TE} {ρ : Rho} {a b : Bool} (ha : Ev g ta ρ (.d (.bool a))) (hb : Ev g tb ρ (.d (.bool b))) : Ev g (tOp rNotB ta tb) ρ (.d (.bool (!decide (a = b)))) :=
  ev_op2 ha hb fun e σ F H v w x y E xa xb pa pb Q q => by
    subst pa pb
    exact ⟨a, b, Dq.bl_eq xa, Dq.bl_eq xb, q _ F H _ (Gr.refl E.wl) (rx_d (Dq.bl _)) rfl⟩
structure TellOk (h : Nat) (rs : List Road) (ms : List Msg) (B : List Ent) (cut : Bool) : Prop where
  lots : ((lotsL h).filter fun l => decide (leftL rs ms B l < 0)) = lackM h rs ms B
  cut : cut = true → lackM h rs ms B = []
  fin : lackM h rs ms B = [] → ∃ res, Out h 0 (restB rs B) (streamsLeft rs ms B) res ∧ (∀ rows ∈ res, rows.length ≤ 400) ∧ (∀ rows ∈ res, ∀ r ∈ rows, r.1.length ≤ 1000) ∧ FinOk rs ms B (partsOf B res) (entsAll (res.drop B.length)) ∧ ((partsOf B res).map List.length).sum + (entsAll (res.drop B.length)).length ≤ 400
theorem le_sum {l : List Int} (h : ∀ x ∈ l, 1 ≤ x) {x : Int} (hx : x ∈ l) : x ≤ l.sum := by
  induction l with
  | nil => cases hx
  | cons a l ih =>
    rw [List.sum_cons]
    rcases List.mem_cons.mp hx with e | hx
    · have := sum_nn (l := l) fun y hy => by have := h y (List.mem_cons_of_mem _ hy); omega
      rw [e]
      omega
    · have := ih (fun y hy => h y (List.mem_cons_of_mem _ hy)) hx
      have := h a List.mem_cons_self
      omega
theorem le_sumN {l : List Nat} {x : Nat} (hx : x ∈ l) : x ≤ l.sum := by
  induction l with
  | nil => cases hx
  | cons a l ih =>
    rw [List.sum_cons]
    rcases List.mem_cons.mp hx with e | hx
    · rw [e]
      omega
    · have := ih hx
      omega
theorem cast_sum (l : List (List Rwx)) : (l.map fun r => (r.length : Int)).sum = ((l.map List.length).sum : Int) := by
  induction l with
  | nil => rfl
  | cons a l ih => rw [List.map_cons, List.sum_cons, ih, List.map_cons, List.sum_cons, Int.natCast_add]
theorem ent_le_sum {es : List Ent} (h : ∀ e ∈ es, 1 ≤ e.2.2) {e : Ent} (he : e ∈ es) : e.2.2 ≤ sumOf es e.1 := by
  unfold sumOf
  refine le_sum (fun x hx => ?_) (List.mem_map.mpr ⟨e, List.mem_filter.mpr ⟨he, decide_eq_true rfl⟩, rfl⟩)
  obtain ⟨e', h1, rfl⟩ := List.mem_map.mp hx
  exact h e' (List.mem_filter.mp h1).1
theorem row_small {h : Nat} {rs : List Road} {row : List Nat} (nok : NetOk h rs) (hr : RowOk rs row) : (∀ a ∈ row, a < 1000) ∧ row.length ≤ 12 := by
  have := nok.many
  have := hr.len
  exact ⟨fun a ha => by have := (hr.2 a ha).1; omega, by omega⟩
theorem sh_begun {h : Nat} {rs : List Road} {ms : List Msg} {B : List Ent} (ok : NewsOk h rs ms) (bo : BegOk rs ms B) : Sh 3 10000 (entsD B) := by
  refine (Sh.list (n := 2) (w := 1623) (ds := B.map entD) fun d hd => ?_).mono (Nat.le_refl _) (by rw [List.length_map]; have := bo.few; omega)
  obtain ⟨e, he, rfl⟩ := List.mem_map.mp hd
  obtain ⟨⟨h1, h2⟩, h3, h4⟩ := bo.ent e he
  obtain ⟨r1, r2⟩ := row_small ok.net h3
  have := ok.few
  have h5 := ent_le_sum (fun e he => (bo.ent e he).1.2) he
  have h6 := bo.sums e.1 h1
  have h7 := (ok.msg _ (md_mem h1)).2.2
  exact sh_ent (by omega) r1 r2 ⟨by omega, by omega⟩
theorem sh_lot {h : Nat} {l : List Nat} (hh : h ≤ 6) (hl : LotOk h l) : Sh 1 540 (tupN l) := sh_tupN (fun a ha => by have := hl.2.2 a ha; omega) (by have := hl.len hh; omega)
def spTold (g : Gb) : Sp := fun vs H Q _ => ∃ lf F h rs ms B cut, Wl g lf F H ∧ ArgAll g lf F vs [.d (.int ((h : Nat) : Int)), .d (rdsD rs), .d (msgsD ms), .d (entsD B), .d (.bool cut)] ∧ NewsOk h rs ms ∧ BegOk rs ms B ∧ TellOk h rs ms B cut ∧ ∀ F' H', Gr g lf F H F' H' → Q (.bl true) H'
theorem Sh.pair {n wa wb : Nat} {a b : PyData} (ha : Sh n wa a) (hb : Sh n wb b) : Sh (n + 1) (wa + wb + 2) (.tuple [a, b]) := by
  refine ⟨?_, ?_, ?_, ?_, ?_⟩
  · show PyData.showableAll [a, b] = true
    simp only [PyData.showableAll, ha.sh, hb.sh, Bool.and_self]
  · show PyData.hasDictAll [a, b] = false
    simp only [PyData.hasDictAll, ha.nd, hb.nd, Bool.or_self]
  · show PyData.leavesShortAll 14 [a, b] = true
    simp only [PyData.leavesShortAll, ha.ls, hb.ls, Bool.and_self]
  · show PyData.depthAll [a, b] + 1 ≤ n + 1
    simp only [PyData.depthAll]
    have := ha.dp
    have := hb.dp
    omega
  · show PyData.weightAll [a, b] ≤ _
    simp only [PyData.weightAll]
    have := ha.wt
    have := hb.wt
    omega
theorem sh_rows {rows : List Rwx} (h : ∀ r ∈ rows, Sh 2 1082 (rwD r)) : Sh 3 (rows.length * 1083) (rowsD rows) := by
  have := Sh.list (n := 2) (w := 1082) (ds := rows.map rwD) fun d hd => by
    obtain ⟨r, hr, rfl⟩ := List.mem_map.mp hd
    exact h r hr
  rwa [List.length_map] at this
theorem sh_parts {parts : List (List Rwx)} (h : ∀ rows ∈ parts, ∀ r ∈ rows, Sh 2 1082 (rwD r)) : Sh 4 ((parts.map List.length).sum * 1083 + parts.length) (.list (parts.map rowsD)) := by
  have h1 := Sh.listW (n := 3) (f := PyData.weight) (ds := parts.map rowsD) fun d hd => by
    obtain ⟨rows, hr, rfl⟩ := List.mem_map.mp hd
    have := sh_rows (h rows hr)
    exact ⟨this.sh, this.nd, this.ls, this.dp, Nat.le_refl _⟩
  refine h1.mono (Nat.le_refl _) ?_
  clear h1
  induction parts with
  | nil => exact Nat.zero_le _
  | cons rows parts ih =>
    have i := ih fun rows hr => h rows (List.mem_cons_of_mem _ hr)
    have w := (sh_rows (h rows List.mem_cons_self)).wt
    simp only [List.map_cons, List.sum_cons, List.length_cons]
    rw [Nat.add_mul]
    omega
theorem sh_ents {es : List Ent} (h : ∀ e ∈ es, Sh 2 1623 (entD e)) : Sh 3 (es.length * 1624) (entsD es) := by
  have := Sh.list (n := 2) (w := 1623) (ds := es.map entD) fun d hd => by
    obtain ⟨r, hr, rfl⟩ := List.mem_map.mp hd
    exact h r hr
  rwa [List.length_map] at this
theorem fin_small {h : Nat} {rs : List Road} {ms : List Msg} {B : List Ent} {parts : List (List Rwx)} {new : List Ent} (ok : NewsOk h rs ms) (fo : FinOk rs ms B parts new) : (∀ e ∈ new, Sh 2 1623 (entD e)) ∧ ∀ rows ∈ parts, ∀ r ∈ rows, Sh 2 1082 (rwD r) := by
  have key : ∀ e ∈ new ++ tagged B parts, e.1 < 1000 ∧ (∀ a ∈ e.2.1, a < 1000) ∧ e.2.1.length ≤ 12 ∧ 0 ≤ e.2.2 ∧ e.2.2 ≤ 1000000000000 := fun e he => by
    obtain ⟨⟨h1, h2⟩, h3, _⟩ := fo.plan.ent e he
    obtain ⟨r1, r2⟩ := row_small ok.net h3
    have := ok.few
    have h5 := ent_le_sum (fun e he => (fo.plan.ent e he).1.2) he
    have h6 := fo.plan.sums e.1 h1
    have h7 := (ok.msg _ (md_mem h1)).2.2
    exact ⟨by omega, r1, r2, by omega, by omega⟩
  refine ⟨fun e he => ?_, fun rows hrows r hr => ?_⟩
  · obtain ⟨k1, k2, k3, k4, k5⟩ := key e (List.mem_append_left _ he)
    exact sh_ent k1 k2 k3 ⟨k4, k5⟩
  · obtain ⟨i, hi⟩ := List.mem_iff_getElem?.mp hrows
    have hil := (List.getElem?_eq_some_iff.mp hi).1
    have hbl : i < B.length := by rw [← fo.len]; exact hil
    have hb : B[i]? = some B[i] := List.getElem?_eq_getElem hbl
    obtain ⟨k1, k2, k3, k4, k5⟩ := key _ (List.mem_append_right _ (tagged_mem hb hi hr))
    exact sh_rw k2 k3 ⟨k4, k5⟩
theorem sh_paper {h : Nat} {rs : List Road} {ms : List Msg} {B : List Ent} {parts : List (List Rwx)} {new : List Ent} (ok : NewsOk h rs ms) (fo : FinOk rs ms B parts new) (h4 : (parts.map List.length).sum + new.length ≤ 400) (hp : parts.length ≤ 6) : Sh 5 700000 (.tuple [.list (parts.map rowsD), entsD new]) := by
  obtain ⟨h1, h2⟩ := fin_small ok fo
  exact (Sh.pair (sh_parts h2) ((sh_ents h1).mono (by decide) (Nat.le_refl _))).mono (Nat.le_refl _) (by omega)
/-- what is new since F0, H0 may be taken out of what is frozen -/
theorem Gr.unf {g : Gb} {lf : Option Addr} {F0 H0 F H : Hp} (w0 : Wl g lf F0 H0) (r : Gr g lf F0 H0 F H) {S : Addr → Bool} (hS : ∀ b, S b = true → H0 b = none) : Gr g lf F0 H0 (unfF S F) H where
  ff := fun b u hb => by
    unfold unfF
    rw [if_neg fun z => by have := w0.same b u hb; rw [hS b z] at this; cases this]
    exact r.ff b u hb
  hh := r.hh
  nw := fun a o h1 h2 => by
    unfold unfF
    split
    · rfl
    · exact r.nw a o h1 h2
  wl := ⟨fun b u hb => by
      unfold unfF at hb
      split at hb
      · cases hb
      · exact r.wl.same b u hb, r.wl.tab, by
      unfold unfF
      split
      · rfl
      · exact r.wl.fT, fun l hl => by
      obtain ⟨h1, h2⟩ := r.wl.feed l hl
      refine ⟨?_, h2⟩
      unfold unfF
      split
      · rfl
      · exact h1, r.wl.one⟩
theorem DqAll.of_strs {F : Hp} : ∀ (ns : List Str), DqAll F (ns.map V.str) (ns.map PyData.str)
  | [] => .nil
  | n :: ns => .cons (.str n) (DqAll.of_strs ns)
theorem unf_strs {F : Hp} {S : Addr → Bool} {v : V} {ns : List Str} (h : Dq F v (.list (ns.map .str))) (hS : ∀ b, S b = true → F b ≠ some (.lst (ns.map V.str))) : Dq (unfF S F) v (.list (ns.map .str)) := by
  obtain ⟨a, xs, rfl, ha, q⟩ := Dq.lst_of h
  rw [q.strs'] at ha
  refine Dq.lst (a := a) (xs := ns.map V.str) ?_ ?_
  · unfold unfF
    rw [if_neg fun z => hS a z ha]
    exact ha
  · exact DqAll.of_strs ns
theorem DqAll.imp {F F' : Hp} : ∀ {vs : List V} {ds : List PyData}, DqAll F vs ds → (∀ v d, d ∈ ds → Dq F v d → Dq F' v d) → DqAll F' vs ds
  | _, _, .nil, _ => .nil
  | _, _, .cons h a, k => .cons (k _ _ List.mem_cons_self h) (DqAll.imp a fun v d hd => k v d (List.mem_cons_of_mem _ hd))
theorem unf_tup {F : Hp} {S : Addr → Bool} {v : V} {ds : List PyData} (hS : ∀ b xs, S b = true → F b ≠ some (.tup xs)) (h : Dq F v (.tuple ds)) (k : ∀ v d, d ∈ ds → Dq F v d → Dq (unfF S F) v d) : Dq (unfF S F) v (.tuple ds) := by
  obtain ⟨a, xs, rfl, ha, q⟩ := Dq.tup_of h
  refine .tup (a := a) (xs := xs) ?_ (q.imp k)
  unfold unfF
  rw [if_neg fun z => hS a xs z ha]
  exact ha
theorem unf_int {F F' : Hp} {v : V} {i : Int} (h : Dq F v (.int i)) : Dq F' v (.int i) := by rw [h.int_eq]; exact .int i
theorem unf_tupN {F : Hp} {S : Addr → Bool} {v : V} {ns : List Nat} (hS : ∀ b xs, S b = true → F b ≠ some (.tup xs)) (h : Dq F v (tupN ns)) : Dq (unfF S F) v (tupN ns) := unf_tup hS h fun v d hd q => by
  obtain ⟨n, _, rfl⟩ := List.mem_map.mp hd
  exact unf_int q
theorem unf_rw {F : Hp} {S : Addr → Bool} {v : V} {r : Rwx} (hS : ∀ b xs, S b = true → F b ≠ some (.tup xs)) (h : Dq F v (rwD r)) : Dq (unfF S F) v (rwD r) := unf_tup (ds := [tupN r.1, .int r.2]) hS h fun v d hd q => by
  simp only [List.mem_cons, List.not_mem_nil, or_false] at hd
  rcases hd with rfl | rfl
  · exact unf_tupN hS q
  · exact unf_int q
theorem unf_ent {F : Hp} {S : Addr → Bool} {v : V} {e : Ent} (hS : ∀ b xs, S b = true → F b ≠ some (.tup xs)) (h : Dq F v (entD e)) : Dq (unfF S F) v (entD e) := unf_tup (ds := [.int (e.1 : Int), tupN e.2.1, .int e.2.2]) hS h fun v d hd q => by
  simp only [List.mem_cons, List.not_mem_nil, or_false] at hd
  rcases hd with rfl | rfl | rfl
  · exact unf_int q
  · exact unf_tupN hS q
  · exact unf_int q
/-- the lists of a finish, and their data -/
def finL (parts : List (List Rwx)) (new : List Ent) : List (List PyData) := parts.map (fun rows => rows.map rwD) ++ [new.map entD]
theorem fin_cells {F9 : Hp} {S : Addr → Bool} {parts : List (List Rwx)} {new : List Ent} {ls : List Addr} {nw : Addr} (dp : DqAll F9 (ls.map V.ref) (parts.map rowsD)) (dn : Dq F9 (.ref nw) (entsD new)) (hS : ∀ b xs, S b = true → F9 b ≠ some (.tup xs)) (k : Nat) (l : Addr) (hk : (ls ++ [nw])[k]? = some l) :
    ∃ xs ds, (finL parts new)[k]? = some ds ∧ F9 l = some (.lst xs) ∧ DqAll (unfF S F9) xs ds := by
  have hlen : ls.length = parts.length := by have := dp.length; rwa [List.length_map, List.length_map] at this
  unfold finL
  by_cases h : k < ls.length
  · rw [List.getElem?_append_left h] at hk
    have hp : parts[k]? = some parts[k] := List.getElem?_eq_getElem (by omega)
    have h1 : (ls.map V.ref)[k]? = some (.ref l) := by rw [List.getElem?_map, hk]; rfl
    have h2 : (parts.map rowsD)[k]? = some (rowsD parts[k]) := by rw [List.getElem?_map, hp]; rfl
    obtain ⟨a, xs, e, ha, q⟩ := Dq.lst_of (dp.got h1 h2)
    cases e
    refine ⟨xs, (parts[k]).map rwD, ?_, ha, q.imp fun v d hd z => ?_⟩
    · rw [List.getElem?_append_left (by rw [List.length_map]; omega), List.getElem?_map, hp]
      rfl
    · obtain ⟨r, _, rfl⟩ := List.mem_map.mp hd
      exact unf_rw hS z
  · rw [List.getElem?_append_right (by omega)] at hk
    have hk0 : k - ls.length = 0 := by
      have := (List.getElem?_eq_some_iff.mp hk).1
      simp at this
      omega
    rw [hk0] at hk
    cases hk
    obtain ⟨a, xs, e, ha, q⟩ := Dq.lst_of dn
    cases e
    refine ⟨xs, new.map entD, ?_, ha, q.imp fun v d hd z => ?_⟩
    · rw [List.getElem?_append_right (by rw [List.length_map]; omega), List.length_map, ← hlen, hk0]
      rfl
    · obtain ⟨r, _, rfl⟩ := List.mem_map.mp hd
      exact unf_ent hS z
/-- what a list of the finish shows: None behind it once it was written -/
def curD (L : List (List PyData)) (i k : Nat) : PyData := .list (L.getD k [] ++ if k < i then [.none] else [])
end TB
set_option Elab.async false
set_option linter.all false
set_option autoImplicit false
set_option maxRecDepth 100000
set_option maxHeartbeats 4000000
/-! the law of the spares, in plain Lean: a road can always be taken -/
namespace TB
open PySem
/-! ### sums -/
def sm {α : Type} (l : List α) (f : α → Int) : Int := (l.map f).sum
theorem sm_nil {α : Type} (f : α → Int) : sm [] f = 0 := rfl
theorem sm_cons {α : Type} (a : α) (l : List α) (f : α → Int) : sm (a :: l) f = f a + sm l f := by
  unfold sm
  rw [List.map_cons, List.sum_cons]
theorem sm_le {α : Type} {l : List α} {f k : α → Int} (h : ∀ a ∈ l, f a ≤ k a) : sm l f ≤ sm l k := by
  induction l with
  | nil => exact Int.le_refl _
  | cons a l ih =>
    rw [sm_cons, sm_cons]
    have := h a List.mem_cons_self
    have := ih fun a ha => h a (List.mem_cons_of_mem _ ha)
    omega
theorem sm_congr {α : Type} {l : List α} {f k : α → Int} (h : ∀ a ∈ l, f a = k a) : sm l f = sm l k := by
  unfold sm
  rw [List.map_congr_left h]
theorem sm_add {α : Type} (l : List α) (f k : α → Int) : sm l (fun a => f a + k a) = sm l f + sm l k := by
  induction l with
  | nil => rfl
  | cons a l ih => rw [sm_cons, sm_cons, sm_cons, ih]; omega
theorem sm_sub {α : Type} (l : List α) (f k : α → Int) : sm l (fun a => f a - k a) = sm l f - sm l k := by
  induction l with
  | nil => rfl
  | cons a l ih => rw [sm_cons, sm_cons, sm_cons, ih]; omega
theorem sm_append {α : Type} (l l2 : List α) (f : α → Int) : sm (l ++ l2) f = sm l f + sm l2 f := by
  induction l with
  | nil => rw [List.nil_append, sm_nil, Int.zero_add]
  | cons a l ih => rw [List.cons_append, sm_cons, sm_cons, ih]; omega
theorem sm_map {α β : Type} (l : List α) (k : α → β) (f : β → Int) : sm (l.map k) f = sm l fun a => f (k a) := by
  unfold sm
  rw [List.map_map]
  rfl
theorem sm_filter {α : Type} (l : List α) (p : α → Bool) (f : α → Int) : ((l.filter p).map f).sum = sm l fun a => if p a then f a else 0 := by
  induction l with
  | nil => rfl
  | cons a l ih =>
    rw [sm_cons, List.filter_cons]
    split
    · rw [List.map_cons, List.sum_cons, ih]
    · rw [ih, Int.zero_add]
theorem sm_zero {α : Type} {l : List α} {f : α → Int} (h : ∀ a ∈ l, f a = 0) : sm l f = 0 := by
  induction l with
  | nil => rfl
  | cons a l ih => rw [sm_cons, h a List.mem_cons_self, ih fun a ha => h a (List.mem_cons_of_mem _ ha)]; rfl
theorem sm_nn {α : Type} {l : List α} {f : α → Int} (h : ∀ a ∈ l, 0 ≤ f a) : 0 ≤ sm l f := by
  have := sm_le (l := l) (f := fun _ => 0) (k := f) h
  rw [sm_zero (f := fun _ => 0) fun _ _ => rfl] at this
  exact this
theorem sm_perm {α : Type} {l l2 : List α} (p : l.Perm l2) (f : α → Int) : sm l f = sm l2 f := by
  induction p with
  | nil => rfl
  | cons a _ ih => rw [sm_cons, sm_cons, ih]
  | swap a b l => rw [sm_cons, sm_cons, sm_cons, sm_cons]; omega
  | trans _ _ h1 h2 => exact h1.trans h2
theorem sm_swap {α β : Type} (l : List α) (k : List β) (f : α → β → Int) : (sm l fun a => sm k fun b => f a b) = sm k fun b => sm l fun a => f a b := by
  induction l with
  | nil => rw [sm_nil, sm_zero fun b _ => sm_nil _]
  | cons a l ih =>
    rw [sm_cons, ih, ← sm_add]
    exact sm_congr fun b _ => (sm_cons a l fun a => f a b).symm
theorem sm_mul {α : Type} (l : List α) (c : Int) (f : α → Int) : (sm l fun a => c * f a) = c * sm l f := by
  induction l with
  | nil => rw [sm_nil, sm_nil, Int.mul_zero]
  | cons a l ih => rw [sm_cons, sm_cons, ih, Int.mul_add]
theorem sm_lt {α : Type} {l : List α} {f k : α → Int} (h : sm l f < sm l k) : ∃ a ∈ l, f a < k a := by
  by_cases q : ∃ a ∈ l, f a < k a
  · exact q
  · exact absurd (sm_le fun a ha => Int.not_lt.mp fun z => q ⟨a, ha, z⟩) (Int.not_le.mpr h)
/-! ### masks -/
theorem lt_of_tb {h m v : Nat} (hm : m < 2 ^ h) (hv : m.testBit v = true) : v < h := by
  by_cases q : v < h
  · exact q
  · rw [Nat.testBit_lt_two_pow (Nat.lt_of_lt_of_le hm (Nat.pow_le_pow_right (by decide) (Nat.not_lt.mp q)))] at hv
    cases hv
theorem msk_ex (h : Nat) (p : Nat → Bool) : ∃ m, m < 2 ^ h ∧ ∀ v, m.testBit v = (decide (v < h) && p v) := by
  induction h with
  | zero => exact ⟨0, by decide, fun v => by rw [Nat.zero_testBit]; simp⟩
  | succ h ih =>
    obtain ⟨m, hm, hb⟩ := ih
    refine ⟨m ||| (if p h then 2 ^ h else 0), Nat.or_lt_two_pow (by rw [Nat.pow_succ]; omega) (by rw [Nat.pow_succ]; have := Nat.one_le_two_pow (n := h); split <;> omega), fun v => ?_⟩
    rw [Nat.testBit_or, hb]
    by_cases e : v = h
    · rw [e]
      by_cases q : p h = true
      · rw [if_pos q, Nat.testBit_two_pow_self, q]
        simp
      · rw [if_neg q, Nat.zero_testBit]
        simp [q]
    · have h1 : (if p h then 2 ^ h else 0).testBit v = false := by
        split
        · rw [Nat.testBit_two_pow]
          exact decide_eq_false fun z => e z.symm
        · exact Nat.zero_testBit v
      rw [h1, Bool.or_false]
      have : decide (v < h) = decide (v < h + 1) := decide_eq_decide.mpr (by omega)
      rw [this]
def Hit (m K : Nat) : Prop := ∃ v, m.testBit v = true ∧ K.testBit v = true
theorem and0 {m K : Nat} : m &&& K = 0 ↔ ¬Hit m K := by
  constructor
  · rintro h ⟨v, h1, h2⟩
    have : (m &&& K).testBit v = true := by rw [Nat.testBit_and, h1, h2]; rfl
    rw [h, Nat.zero_testBit] at this
    cases this
  · intro h
    refine Nat.eq_of_testBit_eq fun v => ?_
    rw [Nat.zero_testBit, Nat.testBit_and]
    cases h1 : m.testBit v with
    | false => rfl
    | true =>
      cases h2 : K.testBit v with
      | false => rfl
      | true => exact absurd ⟨v, h1, h2⟩ h
theorem needB_iff {s : Stm} {m : Nat} : needB s m = true ↔ ¬Hit m s.1 ∧ Hit m s.2.1 := by
  unfold needB
  rw [Bool.and_eq_true, decide_eq_true_eq, Bool.not_eq_true', decide_eq_false_iff_not, and0, and0]
  exact and_congr Iff.rfl ⟨fun h => Classical.not_not.mp h, fun h => Classical.not_not.mpr h⟩
def nd (s : Stm) (m : Nat) : Int := if needB s m then s.2.2 else 0
theorem spareM_eq (rs : List Road) (ss : List Stm) (m : Nat) : spareM rs ss m = inflowM rs m - sm ss fun s => nd s m := by
  unfold spareM
  generalize inflowM rs m = z
  induction ss generalizing z with
  | nil => rw [List.foldl_nil, sm_nil, Int.sub_zero]
  | cons s ss ih =>
    rw [List.foldl_cons, ih, sm_cons]
    unfold nd
    split <;> omega
def fl (r : Road) (m : Nat) : Int := if ent r m then r.2.2 else 0
theorem inflowM_eq (rs : List Road) (m : Nat) : inflowM rs m = sm rs fun r => fl r m := by
  unfold inflowM
  rw [sm_filter]
  rfl
theorem fl_cross {r : Road} (h : 0 ≤ r.2.2) (x y : Nat) : fl r (x &&& y) + fl r (x ||| y) ≤ fl r x + fl r y := by
  unfold fl ent
  rw [Nat.testBit_and, Nat.testBit_and, Nat.testBit_or, Nat.testBit_or]
  cases x.testBit r.1 <;> cases x.testBit r.2.1 <;> cases y.testBit r.1 <;> cases y.testBit r.2.1 <;> simp <;> omega
theorem nd_nn {s : Stm} (h : 0 ≤ s.2.2) (m : Nat) : 0 ≤ nd s m := by
  unfold nd
  split <;> omega
theorem nd_le {s : Stm} (h : 0 ≤ s.2.2) (m : Nat) : nd s m ≤ s.2.2 := by
  unfold nd
  split <;> omega
theorem nd_pos {s : Stm} {m : Nat} (h1 : ¬Hit m s.1) (h2 : Hit m s.2.1) : nd s m = s.2.2 := by
  unfold nd
  rw [if_pos (needB_iff.mpr ⟨h1, h2⟩)]
theorem nd_hit {s : Stm} {m : Nat} (h1 : Hit m s.1) : nd s m = 0 := by
  unfold nd
  rw [if_neg fun z => (needB_iff.mp z).1 h1]
theorem nd_no {s : Stm} {m : Nat} (h1 : ¬Hit m s.2.1) : nd s m = 0 := by
  unfold nd
  rw [if_neg fun z => h1 (needB_iff.mp z).2]
theorem nd_and {s : Stm} {m : Nat} (h : 0 < nd s m) : ¬Hit m s.1 ∧ Hit m s.2.1 := by
  unfold nd at h
  split at h
  · rename_i q
    exact needB_iff.mp q
  · omega
theorem hit_mono {m n K : Nat} (h : ∀ v, m.testBit v = true → n.testBit v = true) (x : Hit m K) : Hit n K := by
  obtain ⟨v, h1, h2⟩ := x
  exact ⟨v, h v h1, h2⟩
theorem and_l {x y v : Nat} (h : (x &&& y).testBit v = true) : x.testBit v = true := by
  rw [Nat.testBit_and, Bool.and_eq_true] at h
  exact h.1
theorem and_r {x y v : Nat} (h : (x &&& y).testBit v = true) : y.testBit v = true := by
  rw [Nat.testBit_and, Bool.and_eq_true] at h
  exact h.2
theorem and_i {x y v : Nat} (h : x.testBit v = true) (h2 : y.testBit v = true) : (x &&& y).testBit v = true := by
  rw [Nat.testBit_and, h, h2]
  rfl
theorem or_l {x y v : Nat} (h : x.testBit v = true) : (x ||| y).testBit v = true := by
  rw [Nat.testBit_or, h]
  rfl
theorem or_e {x y v : Nat} (h : (x ||| y).testBit v = true) : x.testBit v = true ∨ y.testBit v = true := by
  rw [Nat.testBit_or, Bool.or_eq_true] at h
  exact h
theorem hit_or {x y K : Nat} (h : ¬Hit x K) (h2 : ¬Hit y K) : ¬Hit (x ||| y) K := by
  rintro ⟨v, h1, h3⟩
  rcases or_e h1 with q | q
  · exact h ⟨v, q, h3⟩
  · exact h2 ⟨v, q, h3⟩
/-! ### a stream that may be told -/
structure StOk (h : Nat) (rs : List Road) (s : Stm) : Prop where
  sub : ∀ v, s.1.testBit v = true → s.2.1.testBit v = true
  cl : ∀ r ∈ rs, 0 < r.2.2 → s.2.1.testBit r.1 = true → s.2.1.testBit r.2.1 = true
  nn : 0 ≤ s.2.2
  lt : s.2.1 < 2 ^ h
section
variable {h : Nat} {rs : List Road} {ss : List Stm} {K T : Nat}
/-- all whose streams reach v, too -/
theorem box (h : Nat) (ss : List Stm) (v : Nat) : ∃ b, b < 2 ^ h ∧ ∀ w, b.testBit w = true ↔ w < h ∧ ∀ s ∈ ss, s.2.1.testBit w = true → s.2.1.testBit v = true := by
  obtain ⟨b, h1, h2⟩ := msk_ex h fun w => ss.all fun s => !s.2.1.testBit w || s.2.1.testBit v
  refine ⟨b, h1, fun w => ?_⟩
  rw [h2, Bool.and_eq_true, decide_eq_true_eq, List.all_eq_true]
  refine and_congr Iff.rfl (forall_congr' fun s => forall_congr' fun _ => ?_)
  cases s.2.1.testBit w <;> cases s.2.1.testBit v <;> simp
theorem box_in {b v : Nat} (lt : ∀ r ∈ rs, r.1 < h ∧ r.2.1 < h) (wd : ∀ r ∈ rs, 0 ≤ r.2.2) (ok : ∀ s ∈ ss, StOk h rs s) (hb : ∀ w, b.testBit w = true ↔ w < h ∧ ∀ s ∈ ss, s.2.1.testBit w = true → s.2.1.testBit v = true) : inflowM rs b = 0 := by
  rw [inflowM_eq]
  refine sm_zero fun r hr => ?_
  unfold fl
  split
  · rename_i q
    unfold ent at q
    rw [Bool.and_eq_true, Bool.not_eq_true'] at q
    have h0 := wd r hr
    by_cases hz : r.2.2 = 0
    · exact hz
    · have : b.testBit r.1 = true := (hb _).mpr ⟨(lt r hr).1, fun s hs h1 => ((hb _).mp q.1).2 s hs ((ok s hs).cl r hr (by omega) h1)⟩
      rw [this] at q
      cases q.2
  · rfl
theorem nd_box {b v x : Nat} {s : Stm} (hs : s ∈ ss) (ok : StOk h rs s) (hv : v < h) (hb : ∀ w, b.testBit w = true ↔ w < h ∧ ∀ s ∈ ss, s.2.1.testBit w = true → s.2.1.testBit v = true) (hx : x.testBit v = true) : nd s x ≤ nd s (x &&& b) + nd s (x ||| b) := by
  have h1 := nd_nn ok.nn (x &&& b)
  have h2 := nd_nn ok.nn (x ||| b)
  by_cases h0 : 0 < nd s x
  · obtain ⟨q1, q2⟩ := nd_and h0
    have h3 := nd_le ok.nn x
    by_cases ht : s.2.1.testBit v = true
    · have : nd s (x &&& b) = s.2.2 := nd_pos (fun z => q1 (hit_mono (fun v => and_l) z)) ⟨v, and_i hx ((hb v).mpr ⟨hv, fun _ _ z => z⟩), ht⟩
      omega
    · have hbt : ∀ w, b.testBit w = true → ¬s.2.1.testBit w = true := fun w hw z => ht (((hb w).mp hw).2 s hs z)
      have : nd s (x ||| b) = s.2.2 := nd_pos (hit_or q1 fun ⟨w, z1, z2⟩ => hbt w z1 (ok.sub w z2)) (hit_mono (fun v => or_l) q2)
      omega
  · omega
theorem nd_box2 {b x : Nat} {s : Stm} (h1 : Hit x s.1) (h2 : ¬Hit (x &&& b) s.1) (h3 : Hit (x &&& b) s.2.1) (ok : StOk h rs s) : nd s x + s.2.2 ≤ nd s (x &&& b) + nd s (x ||| b) := by
  have e1 := nd_hit h1
  have e2 := nd_pos h2 h3
  have := nd_nn ok.nn (x ||| b)
  omega
theorem nd_cross {b v x y : Nat} {s : Stm} (hs : s ∈ ss) (ok : StOk h rs s) (hb : ∀ w, b.testBit w = true ↔ w < h ∧ ∀ s ∈ ss, s.2.1.testBit w = true → s.2.1.testBit v = true) (hx : x.testBit v = true) (hy : y.testBit v = true) (xb : ∀ w, x.testBit w = true → b.testBit w = true) (yb : ∀ w, y.testBit w = true → b.testBit w = true) : nd s x + nd s y ≤ nd s (x &&& y) + nd s (x ||| y) := by
  have h1 := nd_nn ok.nn (x &&& y)
  have h2 := nd_nn ok.nn (x ||| y)
  have hx2 := nd_le ok.nn x
  have hy2 := nd_le ok.nn y
  have key : ∀ z, (∀ w, z.testBit w = true → b.testBit w = true) → Hit z s.2.1 → Hit (x &&& y) s.2.1 := fun z hz ⟨w, w1, w2⟩ => ⟨v, and_i hx hy, ((hb w).mp (hz w w1)).2 s hs w2⟩
  by_cases hx0 : 0 < nd s x
  · obtain ⟨q1, q2⟩ := nd_and hx0
    have e1 : nd s (x &&& y) = s.2.2 := nd_pos (fun z => q1 (hit_mono (fun v => and_l) z)) (key x xb q2)
    by_cases hy0 : 0 < nd s y
    · have e2 : nd s (x ||| y) = s.2.2 := nd_pos (hit_or q1 (nd_and hy0).1) (hit_mono (fun v => or_l) q2)
      omega
    · omega
  · by_cases hy0 : 0 < nd s y
    · obtain ⟨q1, q2⟩ := nd_and hy0
      have e1 : nd s (x &&& y) = s.2.2 := nd_pos (fun z => q1 (hit_mono (fun v => and_r) z)) (key y yb q2)
      omega
    · omega
theorem in_cross (wd : ∀ r ∈ rs, 0 ≤ r.2.2) (x y : Nat) : inflowM rs (x &&& y) + inflowM rs (x ||| y) ≤ inflowM rs x + inflowM rs y := by
  rw [inflowM_eq, inflowM_eq, inflowM_eq, inflowM_eq, ← sm_add, ← sm_add]
  exact sm_le fun r hr => fl_cross (wd r hr) x y
/-- a tight mask cut by the box of one of its houses is tight -/
theorem tight_box {b v x : Nat} (lt : ∀ r ∈ rs, r.1 < h ∧ r.2.1 < h) (wd : ∀ r ∈ rs, 0 ≤ r.2.2) (ok : ∀ s ∈ ss, StOk h rs s) (sp : ∀ m, m < 2 ^ h → 0 ≤ spareM rs ss m) (hx : x < 2 ^ h) (hb0 : b < 2 ^ h) (hb : ∀ w, b.testBit w = true ↔ w < h ∧ ∀ s ∈ ss, s.2.1.testBit w = true → s.2.1.testBit v = true) (hv : x.testBit v = true) (ht : spareM rs ss x = 0) : spareM rs ss (x &&& b) = 0 ∧ sm ss (fun s => nd s x) = sm ss fun s => nd s (x &&& b) + nd s (x ||| b) := by
  have h1 := sp (x &&& b) (Nat.and_lt_two_pow _ hb0)
  have h2 := sp (x ||| b) (Nat.or_lt_two_pow hx hb0)
  have h3 := in_cross wd x b
  rw [box_in lt wd ok hb] at h3
  have h4 : sm ss (fun s => nd s x) ≤ sm ss fun s => nd s (x &&& b) + nd s (x ||| b) := sm_le fun s hs => nd_box hs (ok s hs) (lt_of_tb hx hv) hb hv
  have h5 := sm_add ss (fun s => nd s (x &&& b)) fun s => nd s (x ||| b)
  rw [spareM_eq] at h1 h2 ht ⊢
  constructor <;> omega
def Dang (h : Nat) (rs : List Road) (ss : List Stm) (K T x : Nat) : Prop := x < 2 ^ h ∧ spareM rs ss x = 0 ∧ Hit x K ∧ ∃ v, x.testBit v = true ∧ K.testBit v = false ∧ T.testBit v = true
theorem sm_strict {α : Type} {a : α} {l : List α} {f k : α → Int} (h : ∀ b ∈ a :: l, f b ≤ k b) (e : sm (a :: l) f = sm (a :: l) k) : f a = k a := by
  rw [sm_cons, sm_cons] at e
  have := h a List.mem_cons_self
  have := sm_le (l := l) fun b hb => h b (List.mem_cons_of_mem _ hb)
  omega
theorem dang_box {b v x : Nat} (lt : ∀ r ∈ rs, r.1 < h ∧ r.2.1 < h) (wd : ∀ r ∈ rs, 0 ≤ r.2.2) (ok : ∀ s ∈ (K, T, 1) :: ss, StOk h rs s) (sp : ∀ m, m < 2 ^ h → 0 ≤ spareM rs ((K, T, 1) :: ss) m) (hb0 : b < 2 ^ h) (hb : ∀ w, b.testBit w = true ↔ w < h ∧ ∀ s ∈ (K, T, 1) :: ss, s.2.1.testBit w = true → s.2.1.testBit v = true) (hx : x < 2 ^ h) (ht : spareM rs ((K, T, 1) :: ss) x = 0) (hk : Hit x K) (hv : x.testBit v = true) (hvk : K.testBit v = false) (hvt : T.testBit v = true) : Dang h rs ((K, T, 1) :: ss) K T (x &&& b) := by
  obtain ⟨h1, h2⟩ := tight_box lt wd ok sp hx hb0 hb hv ht
  have hbv : b.testBit v = true := (hb v).mpr ⟨lt_of_tb hx hv, fun _ _ z => z⟩
  refine ⟨Nat.and_lt_two_pow _ hb0, h1, Classical.byContradiction fun z => ?_, v, and_i hv hbv, hvk, hvt⟩
  have e := sm_strict (fun s hs => nd_box hs (ok s hs) (lt_of_tb hx hv) hb hv) h2
  have := nd_box2 (s := (K, T, 1)) (b := b) hk z ⟨v, and_i hv hbv, hvt⟩ (ok _ List.mem_cons_self)
  have e1 : ((K, T, (1 : Int)) : Stm).2.2 = 1 := rfl
  omega
theorem least_ex {p : Nat → Prop} {n : Nat} (h : p n) : ∃ m, p m ∧ ∀ k, p k → m ≤ k := by
  induction n using Nat.strongRecOn with
  | _ n ih =>
    by_cases q : ∃ k, k < n ∧ p k
    · obtain ⟨k, hk, hp⟩ := q
      exact ih k hk hp
    · exact ⟨n, h, fun k hk => Nat.not_lt.mp fun z => q ⟨k, z, hk⟩⟩
theorem and_eq_of_le {x y : Nat} (h : x ≤ x &&& y) : ∀ v, x.testBit v = true → y.testBit v = true := fun v hv => by
  have e : x &&& y = x := Nat.le_antisymm Nat.and_le_left h
  rw [← e] at hv
  exact and_r hv
theorem cross_zero {x z : Nat} (c1 : inflowM rs (x &&& z) + inflowM rs (x ||| z) ≤ inflowM rs x + inflowM rs z) (c2 : ∀ s ∈ ss, nd s x + nd s z ≤ nd s (x &&& z) + nd s (x ||| z)) (c4 : 0 ≤ spareM rs ss (x &&& z)) (c5 : 0 ≤ spareM rs ss (x ||| z)) (c8 : spareM rs ss x = 0) (c9 : spareM rs ss z = 0) : spareM rs ss (x &&& z) = 0 ∧ (sm ss fun s => nd s x + nd s z) = sm ss fun s => nd s (x &&& z) + nd s (x ||| z) := by
  have c3 := sm_le c2
  have c6 := sm_add ss (fun s => nd s x) fun s => nd s z
  have c7 := sm_add ss (fun s => nd s (x &&& z)) fun s => nd s (x ||| z)
  rw [spareM_eq] at c4 c5 c8 c9 ⊢
  constructor <;> omega
/-- THE KEY: as long as no spare is below 0, a road can be taken -/
theorem key (lt : ∀ r ∈ rs, r.1 < h ∧ r.2.1 < h) (wd : ∀ r ∈ rs, 0 ≤ r.2.2) (ok : ∀ s ∈ (K, T, 1) :: ss, StOk h rs s) (sp : ∀ m, m < 2 ^ h → 0 ≤ spareM rs ((K, T, 1) :: ss) m) (hne : ∃ v, T.testBit v = true ∧ K.testBit v = false) :
    ∃ r ∈ rs, 0 < r.2.2 ∧ K.testBit r.1 = true ∧ K.testBit r.2.1 = false ∧ ∀ m, m < 2 ^ h → spareM rs ((K, T, 1) :: ss) m = 0 → ¬(m.testBit r.2.1 = true ∧ m.testBit r.1 = false ∧ Hit m K) := by
  have okK := ok _ List.mem_cons_self
  have tlt : ∀ v, T.testBit v = true → v < h := fun v hv => lt_of_tb okK.lt hv
  by_cases hd : ∃ x, Dang h rs ((K, T, 1) :: ss) K T x
  · obtain ⟨x0, hx0⟩ := hd
    obtain ⟨x, ⟨hx, ht, hk, v, hv, hvk, hvt⟩, hmin⟩ := least_ex hx0
    have inb : ∀ u, x.testBit u = true → K.testBit u = false → T.testBit u = true → ∀ b, b < 2 ^ h → (∀ w, b.testBit w = true ↔ w < h ∧ ∀ s ∈ (K, T, 1) :: ss, s.2.1.testBit w = true → s.2.1.testBit u = true) → ∀ w, x.testBit w = true → b.testBit w = true := fun u h1 h2 h3 b hb0 hb => and_eq_of_le (hmin _ (dang_box lt wd ok sp hb0 hb hx ht hk h1 h2 h3))
    -- what of x is not known
    obtain ⟨wm, hw0, hw⟩ := msk_ex h fun u => x.testBit u && !K.testBit u
    have hw1 : ∀ u, wm.testBit u = true ↔ x.testBit u = true ∧ K.testBit u = false := fun u => by
      rw [hw, Bool.and_eq_true, Bool.and_eq_true, decide_eq_true_eq, Bool.not_eq_true']
      exact ⟨fun z => z.2, fun z => ⟨lt_of_tb hx z.1, z⟩⟩
    obtain ⟨b, hb0, hb⟩ := box h ((K, T, 1) :: ss) v
    have xb := inb v hv hvk hvt b hb0 hb
    have hneed : sm ss (fun s => nd s x) ≤ sm ss fun s => nd s wm := sm_le fun s hs => by
      have h0 := (ok s (List.mem_cons_of_mem _ hs)).nn
      have h1 := nd_nn h0 wm
      have h2 := nd_le h0 x
      by_cases hx0 : 0 < nd s x
      · obtain ⟨q1, w, q2, q3⟩ := nd_and hx0
        have : nd s wm = s.2.2 := nd_pos (fun z => q1 (hit_mono (fun u hu => ((hw1 u).mp hu).1) z)) ⟨v, (hw1 v).mpr ⟨hv, hvk⟩, ((hb w).mp (xb w q2)).2 s (List.mem_cons_of_mem _ hs) q3⟩
        omega
      · omega
    have e1 : nd (K, T, 1) wm = 1 := nd_pos (s := (K, T, 1)) (fun ⟨u, z1, z2⟩ => by rw [((hw1 u).mp z1).2] at z2; cases z2) ⟨v, (hw1 v).mpr ⟨hv, hvk⟩, hvt⟩
    have e2 : nd (K, T, 1) x = 0 := nd_hit (s := (K, T, 1)) hk
    have hsw := sp wm hw0
    have ht' := ht
    rw [spareM_eq, sm_cons, e1] at hsw
    rw [spareM_eq, sm_cons, e2] at ht'
    obtain ⟨r, hr, hlt⟩ := sm_lt (l := rs) (f := fun r => fl r x) (k := fun r => fl r wm) (by rw [← inflowM_eq, ← inflowM_eq]; omega)
    have hfx : 0 ≤ fl r x := by unfold fl; have := wd r hr; split <;> omega
    have hfw : 0 < fl r wm := by have : fl r x < fl r wm := hlt; omega
    have hent : ent r wm = true := by
      unfold fl at hfw
      split at hfw
      · assumption
      · omega
    have hpos : 0 < r.2.2 := by
      unfold fl at hfw
      rw [if_pos hent] at hfw
      exact hfw
    have hex : ¬ent r x = true := fun z => by
      have : fl r x < fl r wm := hlt
      unfold fl at this
      rw [if_pos hent, if_pos z] at this
      omega
    unfold ent at hent hex
    rw [Bool.and_eq_true, Bool.not_eq_true'] at hent hex
    obtain ⟨he1, he2⟩ := (hw1 _).mp hent.1
    have hs1 : x.testBit r.1 = true := by
      cases q : x.testBit r.1 with
      | true => rfl
      | false => exact absurd ⟨he1, q⟩ hex
    have hs2 : K.testBit r.1 = true := by
      cases q : K.testBit r.1 with
      | true => rfl
      | false => have := (hw1 _).mpr ⟨hs1, q⟩; rw [hent.2] at this; cases this
    have heT : T.testBit r.2.1 = true := okK.cl r hr hpos (okK.sub _ hs2)
    refine ⟨r, hr, hpos, hs2, he2, fun y hy hyt ⟨y1, y2, y3⟩ => ?_⟩
    -- a blocking mask gives a less one
    obtain ⟨c, hc0, hc⟩ := box h ((K, T, 1) :: ss) r.2.1
    have xc := inb _ he1 he2 heT c hc0 hc
    obtain ⟨hz0, hzt, hzk, _⟩ := dang_box lt wd ok sp hc0 hc hy hyt y3 y1 he2 heT
    have hcv : c.testBit r.2.1 = true := (hc _).mpr ⟨(lt r hr).2, fun _ _ z => z⟩
    have hzv : (y &&& c).testBit r.2.1 = true := and_i y1 hcv
    generalize hz : y &&& c = z at *
    have hzc : ∀ w, z.testBit w = true → c.testBit w = true := fun w hw => by rw [← hz] at hw; exact and_r hw
    have c1 := in_cross wd x z
    have c2 : ∀ s ∈ ((K, T, 1) : Stm) :: ss, nd s x + nd s z ≤ nd s (x &&& z) + nd s (x ||| z) := fun s hs => nd_cross hs (ok s hs) hc he1 hzv xc hzc
    obtain ⟨c10, c11⟩ := cross_zero (rs := rs) (ss := ((K, T, 1) : Stm) :: ss) c1 c2 (sp (x &&& z) (Nat.and_lt_two_pow _ hz0)) (sp (x ||| z) (Nat.or_lt_two_pow hx hz0)) ht hzt
    have hk2 : Hit (x &&& z) K := Classical.byContradiction fun q => by
      have e := sm_strict c2 c11
      have q1 : nd (K, T, 1) x = 0 := nd_hit (s := (K, T, 1)) hk
      have q2 : nd (K, T, 1) z = 0 := nd_hit (s := (K, T, 1)) hzk
      have q3 : nd (K, T, 1) (x &&& z) = 1 := nd_pos (s := (K, T, 1)) q ⟨_, and_i he1 hzv, heT⟩
      have q4 := nd_nn (s := (K, T, 1)) okK.nn (x ||| z)
      omega
    have := hmin _ ⟨Nat.and_lt_two_pow _ hz0, c10, hk2, r.2.1, and_i he1 hzv, he2, heT⟩
    have hbad := and_eq_of_le this _ hs1
    rw [← hz] at hbad
    rw [and_l hbad] at y2
    cases y2
  · obtain ⟨v, hvt, hvk⟩ := hne
    obtain ⟨m, hm0, hm⟩ := msk_ex h fun u => !K.testBit u
    have hm1 : ∀ u, m.testBit u = true ↔ u < h ∧ K.testBit u = false := fun u => by
      rw [hm, Bool.and_eq_true, decide_eq_true_eq, Bool.not_eq_true']
    have e1 : nd (K, T, 1) m = 1 := nd_pos (s := (K, T, 1)) (fun ⟨u, z1, z2⟩ => by rw [((hm1 u).mp z1).2] at z2; cases z2) ⟨v, (hm1 v).mpr ⟨tlt v hvt, hvk⟩, hvt⟩
    have h1 := sp m hm0
    rw [spareM_eq, sm_cons, e1] at h1
    have h2 : 0 ≤ sm ss fun s => nd s m := sm_nn fun s hs => nd_nn (ok s (List.mem_cons_of_mem _ hs)).nn m
    obtain ⟨r, hr, hlt⟩ := sm_lt (l := rs) (f := fun _ => 0) (k := fun r => fl r m) (by rw [← inflowM_eq, sm_zero fun _ _ => rfl]; omega)
    have hlt : 0 < fl r m := hlt
    unfold fl at hlt
    split at hlt
    · rename_i q
      unfold ent at q
      rw [Bool.and_eq_true, Bool.not_eq_true'] at q
      have he := (hm1 _).mp q.1
      have hs : K.testBit r.1 = true := by
        cases z : K.testBit r.1 with
        | true => rfl
        | false => have := (hm1 _).mpr ⟨(lt r hr).1, z⟩; rw [q.2] at this; cases this
      exact ⟨r, hr, hlt, hs, he.2, fun y hy hyt ⟨y1, _, y3⟩ => hd ⟨y, hy, hyt, y3, _, y1, he.2, okK.cl r hr hlt (okK.sub _ hs)⟩⟩
    · omega
end
end TB
set_option Elab.async false
set_option linter.all false
set_option autoImplicit false
set_option maxRecDepth 100000
set_option maxHeartbeats 4000000
namespace TB
open PySem
theorem flt_le {α : Type} {l : List α} {p q : α → Bool} (h : ∀ a ∈ l, q a = true → p a = true) : (l.filter q).length ≤ (l.filter p).length := by
  induction l with
  | nil => exact Nat.le_refl _
  | cons a l ih =>
    have i := ih fun b hb => h b (List.mem_cons_of_mem _ hb)
    rw [List.filter_cons, List.filter_cons]
    cases hq : q a with
    | true =>
      rw [if_pos rfl, if_pos (h a List.mem_cons_self hq), List.length_cons, List.length_cons]
      omega
    | false =>
      rw [if_neg (by decide)]
      split
      · rw [List.length_cons]; omega
      · exact i
theorem flt_lt {α : Type} {l : List α} {p q : α → Bool} (h : ∀ a ∈ l, q a = true → p a = true) {e : α} (he : e ∈ l) (h1 : p e = true) (h2 : q e = false) : (l.filter q).length < (l.filter p).length := by
  induction l with
  | nil => cases he
  | cons a l ih =>
    have k := fun b hb => h b (List.mem_cons_of_mem a hb)
    rw [List.filter_cons, List.filter_cons]
    rcases List.mem_cons.mp he with z | z
    · subst z
      rw [h2, h1, if_neg (by decide), if_pos rfl, List.length_cons]
      have := flt_le k
      omega
    · have i := ih k z
      cases hq : q a with
      | true =>
        rw [if_pos rfl, if_pos (h a List.mem_cons_self hq), List.length_cons, List.length_cons]
        omega
      | false =>
        rw [if_neg (by decide)]
        split
        · rw [List.length_cons]; omega
        · exact i
theorem rd_narrow {rs : List Road} {f : List Nat} {t : Int} {a : Nat} (h : a < rs.length) : rd (narrow rs f t) a = ((rd rs a).1, (rd rs a).2.1, if a ∈ f then (rd rs a).2.2 - t else (rd rs a).2.2) := by
  unfold narrow
  exact getD_range_map h
theorem sm_rd {rs : List Road} (f : Road → Int) : sm rs f = sm (List.range rs.length) fun a => f (rd rs a) := by
  have : rs = (List.range rs.length).map (rd rs) := by
    refine List.ext_getElem? fun i => ?_
    by_cases h : i < rs.length
    · rw [rd_get h, List.getElem?_map, List.getElem?_range h]
      rfl
    · rw [List.getElem?_eq_none (by omega), List.getElem?_eq_none (by rw [List.length_map, List.length_range]; omega)]
  conv => lhs; rw [this]
  exact sm_map _ _ _
theorem sm_in {n : Nat} {f : List Nat} (nd : f.Nodup) (lt : ∀ a ∈ f, a < n) (k : Nat → Int) : (sm (List.range n) fun a => if a ∈ f then k a else 0) = sm f k := by
  have e : srtN f = (List.range n).filter fun a => decide (a ∈ f) := srtN_is nd (List.pairwise_lt_range.filter _) fun a => by
    rw [List.mem_filter, List.mem_range, decide_eq_true_eq]
    exact ⟨fun h => ⟨lt a h, h⟩, fun h => h.2⟩
  rw [← sm_perm (srtN_perm f) k, e]
  have := sm_filter (List.range n) (fun a => decide (a ∈ f)) k
  unfold sm at this ⊢
  rw [this]
  simp only [decide_eq_true_eq]
def b2 (b : Bool) : Int := if b then 1 else 0
def cnt (rs : List Road) (f : List Nat) (m : Nat) : Int := sm f fun a => b2 (ent (rd rs a) m)
theorem cnt_cons (rs : List Road) (a : Nat) (f : List Nat) (m : Nat) : cnt rs (a :: f) m = b2 (ent (rd rs a) m) + cnt rs f m := sm_cons _ _ _
theorem b2_nn (b : Bool) : 0 ≤ b2 b := by cases b <;> decide
theorem cnt_nn (rs : List Road) (f : List Nat) (m : Nat) : 0 ≤ cnt rs f m := sm_nn fun a _ => b2_nn _
theorem flow_narrow {rs : List Road} {f : List Nat} (nd : f.Nodup) (lt : ∀ a ∈ f, a < rs.length) (t : Int) (m : Nat) : inflowM (narrow rs f t) m = inflowM rs m - t * cnt rs f m := by
  have hl : (narrow rs f t).length = rs.length := narrow_len _ _ _
  rw [inflowM_eq, inflowM_eq, sm_rd, sm_rd (rs := rs), hl]
  unfold cnt
  rw [← sm_in nd lt, ← sm_mul, ← sm_sub]
  refine sm_congr fun a ha => ?_
  rw [rd_narrow (List.mem_range.mp ha)]
  unfold fl ent b2
  split
  · split <;> simp
  · simp
structure VR (rs rv : List Road) (K : Nat) : Prop where
  len : rv.length = rs.length
  at_ : ∀ a, a < rs.length → (rd rv a).1 = (rd rs a).1 ∧ (rd rv a).2.1 = (rd rs a).2.1 ∧ 0 ≤ (rd rv a).2.2 ∧ (rd rv a).2.2 ≤ (rd rs a).2.2 ∧ (K.testBit (rd rs a).2.1 = false → (rd rv a).2.2 = (rd rs a).2.2)
theorem mem_rd {rs : List Road} {r : Road} (h : r ∈ rs) : ∃ a, a < rs.length ∧ rd rs a = r := by
  obtain ⟨a, ha⟩ := List.mem_iff_getElem?.mp h
  have hl := (List.getElem?_eq_some_iff.mp ha).1
  refine ⟨a, hl, ?_⟩
  rw [rd_get hl] at ha
  exact Option.some.inj ha
theorem VR.ok {h : Nat} {rs rv : List Road} {K : Nat} {s : Stm} (v : VR rs rv K) (o : StOk h rs s) : StOk h rv s := ⟨o.sub, fun r hr h0 h1 => by
  obtain ⟨a, ha, rfl⟩ := mem_rd hr
  rw [v.len] at ha
  obtain ⟨e1, e2, _, e4, _⟩ := v.at_ a ha
  rw [e1] at h1
  rw [e2]
  exact o.cl _ (rd_mem ha) (by omega) h1, o.nn, o.lt⟩
theorem goodR_iff {rs : List Road} {sp : List Int} {K a : Nat} : goodR rs sp K a = true ↔ 0 < (rd rs a).2.2 ∧ K.testBit (rd rs a).1 = true ∧ K.testBit (rd rs a).2.1 = false ∧ ∀ m, m < sp.length → sp.getD m 0 = 0 → strained m (rd rs a).1 (rd rs a).2.1 K = false := by
  unfold goodR
  rw [Bool.and_eq_true, Bool.and_eq_true, Bool.and_eq_true, decide_eq_true_eq, decide_eq_true_eq, Bool.not_eq_true', List.filter_eq_nil_iff]
  refine and_congr Iff.rfl (and_congr Iff.rfl (and_congr Iff.rfl (forall_congr' fun m => ?_)))
  rw [List.mem_range, Bool.and_eq_true, decide_eq_true_eq]
  refine forall_congr' fun _ => ?_
  constructor
  · intro q z
    cases hs : strained m (rd rs a).1 (rd rs a).2.1 K with
    | false => rfl
    | true => exact absurd ⟨z, hs⟩ q
  · rintro q ⟨z1, z2⟩
    rw [q z1] at z2
    cases z2
theorem strained_iff {m s e K : Nat} : strained m s e K = true ↔ m.testBit e = true ∧ m.testBit s = false ∧ Hit m K := by
  unfold strained
  rw [Bool.and_eq_true, Bool.and_eq_true, Bool.not_eq_true', Bool.not_eq_true', decide_eq_false_iff_not, and0, Classical.not_not]
def miss (h K T : Nat) : Nat := ((List.range h).filter fun v => T.testBit v && !K.testBit v).length
structure GF (h : Nat) (rs : List Road) (K T : Nat) (f : List Nat) : Prop where
  mem : ∀ a ∈ f, a < rs.length ∧ 0 < (rd rs a).2.2
  nd : (ends rs f).Nodup
  out : ∀ v ∈ ends rs f, K.testBit v = false ∧ T.testBit v = true
  all : ∀ v, T.testBit v = true → K.testBit v = true ∨ v ∈ ends rs f
  reach : ∀ E hs, (∀ v, K.testBit v = true → Reach E hs v) → (∀ a ∈ f, edg (rd rs a) ∈ E) → ∀ v ∈ ends rs f, Reach E hs v
  len : f.length ≤ miss h K T
theorem tb_add {K e v : Nat} : (K ||| 1 <<< e).testBit v = (K.testBit v || decide (v = e)) := by
  rw [Nat.testBit_or, Nat.one_shiftLeft, Nat.testBit_two_pow]
  congr 1
  exact decide_eq_decide.mpr eq_comm
theorem hit_add {m K e : Nat} : Hit m (K ||| 1 <<< e) ↔ Hit m K ∨ m.testBit e = true := by
  constructor
  · rintro ⟨v, h1, h2⟩
    rw [tb_add, Bool.or_eq_true, decide_eq_true_eq] at h2
    rcases h2 with h2 | rfl
    · exact .inl ⟨v, h1, h2⟩
    · exact .inr h1
  · rintro (⟨v, h1, h2⟩ | h)
    · exact ⟨v, h1, by rw [tb_add, h2]; rfl⟩
    · exact ⟨e, h, by rw [tb_add]; simp⟩
/-- one more road: what strains and what is needed -/
theorem one_more {K T m : Nat} {r : Road} (hs : K.testBit r.1 = true) (he : T.testBit r.2.1 = true) : b2 (ent r m) + nd (K ||| 1 <<< r.2.1, T, 1) m = nd (K, T, 1) m + b2 (strained m r.1 r.2.1 K) := by
  by_cases h1 : m.testBit r.2.1 = true
  · rw [nd_hit (s := (K ||| 1 <<< r.2.1, T, 1)) (hit_add.mpr (.inr h1))]
    by_cases h2 : Hit m K
    · rw [nd_hit (s := (K, T, 1)) h2]
      unfold ent strained
      rw [decide_eq_false (fun z => and0.mp z h2)]
      simp
    · have h3 : m.testBit r.1 = false := by
        cases q : m.testBit r.1 with
        | false => rfl
        | true => exact absurd ⟨_, q, hs⟩ h2
      rw [nd_pos (s := (K, T, 1)) h2 ⟨_, h1, he⟩]
      have : strained m r.1 r.2.1 K = false := by
        cases q : strained m r.1 r.2.1 K with
        | false => rfl
        | true => exact absurd (strained_iff.mp q).2.2 h2
      rw [this]
      unfold ent
      rw [h1, h3]
      rfl
  · have e1 : ent r m = false := by unfold ent; simp [h1]
    have e2 : strained m r.1 r.2.1 K = false := by unfold strained; simp [h1]
    rw [e1, e2]
    have : nd (K ||| 1 <<< r.2.1, T, 1) m = nd (K, T, 1) m := by
      have hh : Hit m (K ||| 1 <<< r.2.1) ↔ Hit m K := by
        rw [hit_add]
        exact ⟨fun z => z.elim id fun z => absurd z h1, .inl⟩
      unfold nd
      have : needB (K ||| 1 <<< r.2.1, T, 1) m = needB (K, T, 1) m := by
        rw [Bool.eq_iff_iff, needB_iff, needB_iff]
        exact and_congr (not_congr hh) Iff.rfl
      rw [this]
    rw [this]
    exact Int.add_comm _ _
theorem gn_ex {h : Nat} {rs : List Road} {ss : List Stm} {T : Nat} (lt : ∀ r ∈ rs, r.1 < h ∧ r.2.1 < h) : ∀ (n K : Nat) (sp : List Int) (rv : List Road), miss h K T ≤ n → VR rs rv K → sp.length = 2 ^ h → (∀ m, m < 2 ^ h → sp.getD m 0 = spareM rv ((K, T, 1) :: ss) m) → (∀ m, m < 2 ^ h → 0 ≤ spareM rv ((K, T, 1) :: ss) m) → (∀ s ∈ (K, T, 1) :: ss, StOk h rs s) →
    ∃ f, Gn rs T sp K f ∧ GF h rs K T f ∧ ∀ m, m < 2 ^ h → 0 ≤ cnt rs f m - nd (K, T, 1) m ∧ cnt rs f m - nd (K, T, 1) m ≤ sp.getD m 0 := by
  intro n
  induction n with
  | zero =>
    intro K sp rv hn vr hl hsp h0 ok
    have okK := ok _ List.mem_cons_self
    have hKT : K = T := Nat.eq_of_testBit_eq fun v => by
      cases hk : K.testBit v with
      | true => exact (okK.sub v hk).symm
      | false =>
        cases ht : T.testBit v with
        | false => rfl
        | true =>
          have : v ∈ (List.range h).filter fun v => T.testBit v && !K.testBit v := List.mem_filter.mpr ⟨List.mem_range.mpr (lt_of_tb okK.lt ht), by rw [hk, ht]; rfl⟩
          have := List.length_pos_of_mem this
          unfold miss at hn
          omega
    subst hKT
    refine ⟨[], .done sp, ⟨fun a ha => (by cases ha), List.nodup_nil, fun v hv => (by cases hv), fun v hv => .inl hv, fun _ _ _ _ v hv => (by cases hv), Nat.zero_le _⟩, fun m hm => ?_⟩
    have e : nd (K, K, 1) m = 0 := by
      by_cases z : Hit m K
      · exact nd_hit (s := (K, K, 1)) z
      · exact nd_no (s := (K, K, 1)) z
    have e2 : cnt rs [] m = 0 := rfl
    rw [e, e2, hsp m hm]
    exact ⟨by decide, h0 m hm⟩
  | succ n ih =>
    intro K sp rv hn vr hl hsp h0 ok
    have okK := ok _ List.mem_cons_self
    by_cases hKT : K = T
    · subst hKT
      refine ⟨[], .done sp, ⟨fun a ha => (by cases ha), List.nodup_nil, fun v hv => (by cases hv), fun v hv => .inl hv, fun _ _ _ _ v hv => (by cases hv), Nat.zero_le _⟩, fun m hm => ?_⟩
      have e : nd (K, K, 1) m = 0 := by
        by_cases z : Hit m K
        · exact nd_hit (s := (K, K, 1)) z
        · exact nd_no (s := (K, K, 1)) z
      have e2 : cnt rs [] m = 0 := rfl
      rw [e, e2, hsp m hm]
      exact ⟨by decide, h0 m hm⟩
    have hne : ∃ v, T.testBit v = true ∧ K.testBit v = false := Classical.byContradiction fun z => hKT (Nat.eq_of_testBit_eq fun v => by
      cases hk : K.testBit v with
      | true => exact (okK.sub v hk).symm
      | false =>
        cases ht : T.testBit v with
        | false => rfl
        | true => exact absurd ⟨v, ht, hk⟩ z)
    have ltv : ∀ r ∈ rv, r.1 < h ∧ r.2.1 < h := fun r hr => by
      obtain ⟨a, ha, rfl⟩ := mem_rd hr
      rw [vr.len] at ha
      obtain ⟨e1, e2, _⟩ := vr.at_ a ha
      rw [e1, e2]
      exact lt _ (rd_mem ha)
    have wdv : ∀ r ∈ rv, 0 ≤ r.2.2 := fun r hr => by
      obtain ⟨a, ha, rfl⟩ := mem_rd hr
      rw [vr.len] at ha
      exact (vr.at_ a ha).2.2.1
    obtain ⟨r, hr, k1, k2, k3, k4⟩ := key ltv wdv (fun s hs => vr.ok (ok s hs)) h0 hne
    obtain ⟨a0, ha0, rfl⟩ := mem_rd hr
    rw [vr.len] at ha0
    obtain ⟨e1, e2, _, _, e5⟩ := vr.at_ a0 ha0
    rw [e1, e2] at k4
    rw [e1] at k2
    rw [e2] at k3
    have g0 : goodR rs sp K a0 = true := goodR_iff.mpr ⟨by rw [← e5 k3]; exact k1, k2, k3, fun m hm hz => by
      rw [hl] at hm
      cases q : strained m (rd rs a0).1 (rd rs a0).2.1 K with
      | false => rfl
      | true => exact absurd (strained_iff.mp q) (k4 m hm (by rw [← hsp m hm]; exact hz))⟩
    obtain ⟨a, ⟨ha, ga⟩, hmin⟩ := least_ex (p := fun a => a < rs.length ∧ goodR rs sp K a = true) ⟨ha0, g0⟩
    have nx : IsNext rs sp K a := ⟨ha, ga, fun j hj => by
      cases q : goodR rs sp K j with
      | false => rfl
      | true => have := hmin j ⟨by omega, q⟩; omega⟩
    obtain ⟨g1, g2, g3, g4⟩ := goodR_iff.mp ga
    obtain ⟨v1, v2, v3, v4, v5⟩ := vr.at_ a ha
    have heT : T.testBit (rd rs a).2.1 = true := okK.cl _ (rd_mem ha) g1 (okK.sub _ g2)
    have heh := (lt _ (rd_mem ha)).2
    have vr2 : VR rs (narrow rv [a] 1) (K ||| 1 <<< (rd rs a).2.1) := by
      refine ⟨by rw [narrow_len, vr.len], fun b hb => ?_⟩
      obtain ⟨w1, w2, w3, w4, w5⟩ := vr.at_ b hb
      rw [rd_narrow (by rw [vr.len]; exact hb)]
      refine ⟨w1, w2, ?_⟩
      rw [tb_add, Bool.or_eq_false_iff, decide_eq_false_iff_not]
      by_cases z : b = a
      · subst z
        rw [if_pos (List.mem_singleton.mpr rfl)]
        have := v5 g3
        exact ⟨by show 0 ≤ (rd rv b).2.2 - 1; omega, by show (rd rv b).2.2 - 1 ≤ _; omega, fun q => absurd rfl q.2⟩
      · rw [if_neg fun q => z (List.mem_singleton.mp q)]
        exact ⟨w3, w4, fun q => w5 q.1⟩
    have entv : ∀ m, ent (rd rv a) m = ent (rd rs a) m := fun m => by unfold ent; rw [v1, v2]
    have spn : ∀ m, spareM (narrow rv [a] 1) ((K ||| 1 <<< (rd rs a).2.1, T, 1) :: ss) m = spareM rv ((K, T, 1) :: ss) m - b2 (strained m (rd rs a).1 (rd rs a).2.1 K) := fun m => by
      rw [spareM_eq, spareM_eq, sm_cons, sm_cons, flow_narrow (by simp) (fun b hb => by rw [List.mem_singleton.mp hb, vr.len]; exact ha)]
      have c : cnt rv [a] m = b2 (ent (rd rs a) m) := by
        rw [cnt_cons, entv]
        show _ + 0 = _
        omega
      have := one_more (m := m) g2 heT
      rw [c]
      omega
    have gd : ∀ m, m < 2 ^ h → (strainL sp (rd rs a).1 (rd rs a).2.1 K).getD m 0 = sp.getD m 0 - b2 (strained m (rd rs a).1 (rd rs a).2.1 K) := fun m hm => by
      unfold strainL
      rw [getD_range_map (by rw [hl]; exact hm)]
      rfl
    obtain ⟨f, G1, G2, G3⟩ := ih (K ||| 1 <<< (rd rs a).2.1) (strainL sp (rd rs a).1 (rd rs a).2.1 K) (narrow rv [a] 1) (by
        have : miss h (K ||| 1 <<< (rd rs a).2.1) T < miss h K T := flt_lt (e := (rd rs a).2.1) (fun v _ hv => by
          rw [Bool.and_eq_true, tb_add] at hv
          rw [Bool.and_eq_true]
          refine ⟨hv.1, ?_⟩
          have := hv.2
          revert this
          cases K.testBit v <;> simp) (List.mem_range.mpr heh) (by rw [heT, g3]; rfl) (by rw [tb_add]; simp)
        omega) vr2 (by unfold strainL; rw [List.length_map, List.length_range, hl]) (fun m hm => by rw [gd m hm, hsp m hm, spn]) (fun m hm => by
        rw [spn]
        have := h0 m hm
        cases q : strained m (rd rs a).1 (rd rs a).2.1 K with
        | false => show 0 ≤ _ - 0; omega
        | true =>
          show 0 ≤ _ - 1
          by_cases z : spareM rv ((K, T, 1) :: ss) m = 0
          · rw [← hsp m hm] at z
            rw [g4 m (by rw [hl]; exact hm) z] at q
            cases q
          · omega) (fun s hs => by
        rcases List.mem_cons.mp hs with rfl | hs
        · refine ⟨fun v hv => ?_, okK.cl, by show (0 : Int) ≤ 1; decide, okK.lt⟩
          rw [tb_add, Bool.or_eq_true, decide_eq_true_eq] at hv
          rcases hv with hv | rfl
          · exact okK.sub v hv
          · exact heT
        · exact ok s (List.mem_cons_of_mem _ hs))
    refine ⟨a :: f, .step hKT nx G1, ⟨?_, ?_, ?_, ?_, ?_, ?_⟩, fun m hm => ?_⟩
    · intro b hb
      rcases List.mem_cons.mp hb with rfl | hb
      · exact ⟨ha, g1⟩
      · exact G2.mem b hb
    · show ((rd rs a).2.1 :: ends rs f).Nodup
      refine List.nodup_cons.mpr ⟨fun z => ?_, G2.nd⟩
      have := (G2.out _ z).1
      rw [tb_add] at this
      simp at this
    · intro v hv
      have hv : v ∈ (rd rs a).2.1 :: ends rs f := hv
      rcases List.mem_cons.mp hv with rfl | hv
      · exact ⟨g3, heT⟩
      · obtain ⟨o1, o2⟩ := G2.out v hv
        rw [tb_add, Bool.or_eq_false_iff] at o1
        exact ⟨o1.1, o2⟩
    · intro v hv
      show _ ∨ v ∈ (rd rs a).2.1 :: ends rs f
      rcases G2.all v hv with z | z
      · rw [tb_add, Bool.or_eq_true, decide_eq_true_eq] at z
        rcases z with z | rfl
        · exact .inl z
        · exact .inr List.mem_cons_self
      · exact .inr (List.mem_cons_of_mem _ z)
    · intro E hs hK hE v hv
      have hv : v ∈ (rd rs a).2.1 :: ends rs f := hv
      have ra : Reach E hs (rd rs a).2.1 := .step (u := (rd rs a).1) (hE a List.mem_cons_self) (hK _ g2)
      rcases List.mem_cons.mp hv with rfl | hv
      · exact ra
      · refine G2.reach E hs (fun w hw => ?_) (fun b hb => hE b (List.mem_cons_of_mem _ hb)) v hv
        rw [tb_add, Bool.or_eq_true, decide_eq_true_eq] at hw
        rcases hw with hw | rfl
        · exact hK w hw
        · exact ra
    · have := G2.len
      rw [List.length_cons]
      have : miss h (K ||| 1 <<< (rd rs a).2.1) T < miss h K T := flt_lt (e := (rd rs a).2.1) (fun v _ hv => by
          rw [Bool.and_eq_true, tb_add] at hv
          rw [Bool.and_eq_true]
          refine ⟨hv.1, ?_⟩
          have := hv.2
          revert this
          cases K.testBit v <;> simp) (List.mem_range.mpr heh) (by rw [heT, g3]; rfl) (by rw [tb_add]; simp)
      omega
    · have := G3 m hm
      rw [gd m hm] at this
      rw [cnt_cons]
      have q := one_more (m := m) (K := K) g2 heT
      have := b2_nn (strained m (rd rs a).1 (rd rs a).2.1 K)
      omega
end TB
set_option Elab.async false
set_option linter.all false
set_option autoImplicit false
set_option maxRecDepth 100000
set_option maxHeartbeats 4000000
namespace TB
open PySem PySem.Spec PyProof.Rows L2
theorem nodup_of_map {α β : Type} {f : α → β} {l : List α} (h : (l.map f).Nodup) : l.Nodup := (List.pairwise_map.mp h).imp fun h e => h (congrArg f e)
theorem sm_set {α : Type} {l : List α} {i : Nat} {a b : α} (h : l[i]? = some a) (f : α → Int) : sm (l.set i b) f = sm l f - f a + f b := by
  induction l generalizing i with
  | nil => cases h
  | cons c l ih =>
    cases i with
    | zero =>
      cases h
      rw [List.set_cons_zero, sm_cons, sm_cons]
      omega
    | succ i =>
      rw [List.set_cons_succ, sm_cons, sm_cons, ih (by simpa using h)]
      omega
theorem min_ex : ∀ (l : List Int), l ≠ [] → ∃ t, IsMin t l
  | [], h => absurd rfl h
  | [a], _ => ⟨a, List.mem_cons_self, fun y hy => by rw [List.mem_singleton.mp hy]; exact Int.le_refl _⟩
  | a :: b :: l, _ => by
    obtain ⟨t, h1, h2⟩ := min_ex (b :: l) (by simp)
    by_cases q : a ≤ t
    · exact ⟨a, List.mem_cons_self, fun y hy => by
        rcases List.mem_cons.mp hy with rfl | hy
        · exact Int.le_refl _
        · exact Int.le_trans q (h2 y hy)⟩
    · exact ⟨t, List.mem_cons_of_mem _ h1, fun y hy => by
        rcases List.mem_cons.mp hy with rfl | hy
        · omega
        · exact h2 y hy⟩
theorem nd_unit (K T m : Nat) (t : Int) : nd (K, T, t) m = t * nd (K, T, 1) m := by
  have e : needB (K, T, t) m = needB (K, T, 1) m := rfl
  unfold nd
  rw [e]
  split
  · exact (Int.mul_one t).symm
  · exact (Int.mul_zero t).symm
theorem manyR_eq {rs : List Road} {f : List Nat} {s : Stm} (m : Nat) : manyR rs (srtN f) s m = cnt rs f m - nd (s.1, s.2.1, 1) m := by
  unfold manyR
  have e1 : (if needB s m then (1 : Int) else 0) = nd (s.1, s.2.1, 1) m := rfl
  rw [e1, sm_filter, sm_perm (srtN_perm f)]
  have : (sm f fun a => if (!m.testBit (rd rs a).1) = true then ((m >>> (rd rs a).2.1 &&& 1 : Nat) : Int) else 0) = cnt rs f m := sm_congr fun a _ => by
    have hb : ((m >>> (rd rs a).2.1 &&& 1 : Nat) : Int) = b2 (m.testBit (rd rs a).2.1) := by
      have h1 := tb1 m (rd rs a).2.1
      rw [Nat.and_one_is_mod] at h1 ⊢
      rw [← h1]
      unfold b2
      have : (m >>> (rd rs a).2.1) % 2 < 2 := Nat.mod_lt _ (by decide)
      by_cases q : (m >>> (rd rs a).2.1) % 2 = 1
      · rw [q]; rfl
      · have : (m >>> (rd rs a).2.1) % 2 = 0 := by omega
        rw [this]; rfl
    rw [hb]
    unfold ent
    cases m.testBit (rd rs a).1 <;> cases m.testBit (rd rs a).2.1 <;> rfl
  rw [this]
structure Sub (rs rs2 : List Road) : Prop where
  len : rs2.length = rs.length
  at_ : ∀ a, a < rs.length → (rd rs2 a).1 = (rd rs a).1 ∧ (rd rs2 a).2.1 = (rd rs a).2.1 ∧ (rd rs2 a).2.2 ≤ (rd rs a).2.2
theorem Sub.refl (rs : List Road) : Sub rs rs := ⟨rfl, fun _ _ => ⟨rfl, rfl, Int.le_refl _⟩⟩
theorem Sub.trans {rs rs2 rs3 : List Road} (x : Sub rs rs2) (y : Sub rs2 rs3) : Sub rs rs3 := ⟨y.len.trans x.len, fun a ha => by
  obtain ⟨a1, a2, a3⟩ := x.at_ a ha
  obtain ⟨b1, b2, b3⟩ := y.at_ a (by rw [x.len]; exact ha)
  exact ⟨b1.trans a1, b2.trans a2, Int.le_trans b3 a3⟩⟩
theorem Sub.ok {h : Nat} {rs rv : List Road} {s : Stm} (v : Sub rs rv) (o : StOk h rs s) : StOk h rv s := ⟨o.sub, fun r hr h0 h1 => by
  obtain ⟨a, ha, rfl⟩ := mem_rd hr
  rw [v.len] at ha
  obtain ⟨e1, e2, e4⟩ := v.at_ a ha
  rw [e1] at h1
  rw [e2]
  exact o.cl _ (rd_mem ha) (by omega) h1, o.nn, o.lt⟩
theorem Sub.ends {rs rv : List Road} (v : Sub rs rv) {f : List Nat} (h : ∀ a ∈ f, a < rs.length) : ends rv f = ends rs f := List.map_congr_left fun a ha => (v.at_ a (h a ha)).2.1
theorem Sub.gf {h : Nat} {rs rv : List Road} (v : Sub rs rv) {K T : Nat} {f : List Nat} (g : GF h rv K T f) : GF h rs K T f := by
  have hl : ∀ a ∈ f, a < rs.length := fun a ha => by rw [← v.len]; exact (g.mem a ha).1
  have e := v.ends hl
  refine ⟨fun a ha => ⟨hl a ha, ?_⟩, e ▸ g.nd, e ▸ g.out, e ▸ g.all, fun E hs h1 h2 => e ▸ g.reach E hs h1 fun a ha => ?_, g.len⟩
  · have := (v.at_ a (hl a ha)).2.2
    have := (g.mem a ha).2
    omega
  · obtain ⟨e1, e2, _⟩ := v.at_ a (hl a ha)
    have := h2 a ha
    unfold edg at this ⊢
    rw [e1, e2]
    exact this
structure Good (h : Nat) (rs : List Road) (ss : List Stm) : Prop where
  h6 : h ≤ 6
  lt : ∀ r ∈ rs, r.1 < h ∧ r.2.1 < h
  wd : ∀ r ∈ rs, 0 ≤ r.2.2
  ok : ∀ s ∈ ss, StOk h rs s ∧ ∃ v, s.1.testBit v = true
  sp : ∀ m, m < 2 ^ h → 0 ≤ spareM rs ss m
def phi (h : Nat) (rs : List Road) (ss : List Stm) : Int := (sm (List.range (2 ^ h)) fun m => min (spareM rs ss m) 5) + (sm rs fun r : Road => b2 (decide (0 < r.2.2))) + sm ss fun s : Stm => b2 (decide (0 < s.2.2))
theorem Good.phi_nn {h : Nat} {rs : List Road} {ss : List Stm} (g : Good h rs ss) : 0 ≤ phi h rs ss := by
  have h1 : 0 ≤ sm (List.range (2 ^ h)) fun m => min (spareM rs ss m) 5 := sm_nn fun m hm => by
    have := g.sp m (List.mem_range.mp hm)
    omega
  have h2 : 0 ≤ sm rs fun r => b2 (decide (0 < r.2.2)) := sm_nn fun _ _ => b2_nn _
  have h3 : 0 ≤ sm ss fun s => b2 (decide (0 < s.2.2)) := sm_nn fun _ _ => b2_nn _
  unfold phi
  omega
theorem sm_lt_of {α : Type} {l : List α} {f k : α → Int} (h : ∀ b ∈ l, f b ≤ k b) {a : α} (ha : a ∈ l) (q : f a < k a) : sm l f < sm l k := by
  induction l with
  | nil => cases ha
  | cons b l ih =>
    rw [sm_cons, sm_cons]
    rcases List.mem_cons.mp ha with rfl | ha
    · have := sm_le (l := l) fun c hc => h c (List.mem_cons_of_mem _ hc)
      omega
    · have := ih (fun c hc => h c (List.mem_cons_of_mem _ hc)) ha
      have := h b List.mem_cons_self
      omega
theorem cnt_len (rs : List Road) (f : List Nat) (m : Nat) : cnt rs f m ≤ f.length := by
  induction f with
  | nil => exact Int.le_refl _
  | cons a f ih =>
    rw [cnt_cons, List.length_cons]
    have : b2 (ent (rd rs a) m) ≤ 1 := by cases ent (rd rs a) m <;> decide
    omega
theorem miss_le {h K T v : Nat} (hv : K.testBit v = true) (hT : T.testBit v = true) (hlt : v < h) : miss h K T ≤ h - 1 := by
  have : miss h K T < ((List.range h).filter fun _ => true).length := flt_lt (e := v) (fun _ _ _ => rfl) (List.mem_range.mpr hlt) rfl (by rw [hv]; simp)
  rw [List.filter_eq_self.mpr fun _ _ => rfl, List.length_range] at this
  omega
theorem sparesM_get {h : Nat} {rs : List Road} {ss : List Stm} {m : Nat} (hm : m < 2 ^ h) : (sparesM h rs ss).getD m 0 = spareM rs ss m := by
  unfold sparesM
  rw [getD_range_map (by rw [Nat.one_shiftLeft]; exact hm)]
theorem sparesM_len (h : Nat) (rs : List Road) (ss : List Stm) : (sparesM h rs ss).length = 2 ^ h := by
  unfold sparesM
  rw [List.length_map, List.length_range, Nat.one_shiftLeft]
theorem GF.nodup {h : Nat} {rs : List Road} {K T : Nat} {f : List Nat} (g : GF h rs K T f) : f.Nodup := by
  have := g.nd
  unfold ends at this
  exact nodup_of_map this
/-- one round -/
theorem round {h i : Nat} {rs : List Road} {ss : List Stm} {s : Stm} (g : Good h rs ss) (hs : ss[i]? = some s) (hpos : 0 < s.2.2) :
    ∃ f t, Gn rs s.2.1 (sparesM h rs ss) s.1 f ∧ GF h rs s.1 s.2.1 f ∧ IsMin t (boundsL rs (sparesM h rs ss) s (srtN f) (sparesM h rs ss).length) ∧ f.length ≤ 5 ∧ (∀ m, m < (sparesM h rs ss).length → 0 < manyR rs (srtN f) s m → CDivW ((sparesM h rs ss).getD m 0) (manyR rs (srtN f) s m)) ∧ 1 ≤ t ∧ t ≤ s.2.2 ∧ (∀ a ∈ f, t ≤ (rd rs a).2.2) ∧ Good h (narrow rs (srtN f) t) (ss.set i (s.1, s.2.1, s.2.2 - t)) ∧ phi h (narrow rs (srtN f) t) (ss.set i (s.1, s.2.1, s.2.2 - t)) < phi h rs ss := by
  obtain ⟨K, T, tm⟩ := s
  have hmem : (K, T, tm) ∈ ss := List.mem_of_getElem? hs
  obtain ⟨oks, v0, hv0⟩ := g.ok _ hmem
  have hsp : ∀ m, spareM rs ((K, T, 1) :: ss.set i (K, T, tm - 1)) m = spareM rs ss m := fun m => by
    rw [spareM_eq, spareM_eq, sm_cons, sm_set hs, nd_unit K T m tm, nd_unit K T m (tm - 1), Int.sub_mul, Int.one_mul]
    omega
  have hpos : 0 < tm := hpos
  obtain ⟨f, G1, G2, G3⟩ := gn_ex (ss := ss.set i (K, T, tm - 1)) (T := T) g.lt (miss h K T) K (sparesM h rs ss) rs (Nat.le_refl _) ⟨rfl, fun a ha => ⟨rfl, rfl, g.wd _ (rd_mem ha), Int.le_refl _, fun _ => rfl⟩⟩ (sparesM_len _ _ _) (fun m hm => by rw [sparesM_get hm, hsp]) (fun m hm => by rw [hsp]; exact g.sp m hm) (fun s hs2 => by
    rcases List.mem_cons.mp hs2 with rfl | hs2
    · exact ⟨oks.sub, oks.cl, by show (0 : Int) ≤ 1; decide, oks.lt⟩
    · rcases List.mem_or_eq_of_mem_set hs2 with z | rfl
      · exact (g.ok _ z).1
      · exact ⟨oks.sub, oks.cl, by show 0 ≤ tm - 1; omega, oks.lt⟩)
  have hv0T := oks.sub v0 hv0
  have hmiss := miss_le hv0 hv0T (lt_of_tb oks.lt hv0T)
  have h6 := g.h6
  have hf5 : f.length ≤ 5 := by have : f.length ≤ miss h K T := G2.len; have : miss h K T ≤ h - 1 := hmiss; omega
  have hnd : f.Nodup := G2.nodup
  have hlt : ∀ a ∈ f, a < rs.length := fun a ha => (G2.mem a ha).1
  have hmany : ∀ m, manyR rs (srtN f) (K, T, tm) m = cnt rs f m - nd (K, T, 1) m := fun m => manyR_eq m
  obtain ⟨t, ht⟩ := min_ex (boundsL rs (sparesM h rs ss) (K, T, tm) (srtN f) (sparesM h rs ss).length) (by unfold boundsL; simp)
  have hin : ∀ y ∈ boundsL rs (sparesM h rs ss) (K, T, tm) (srtN f) (sparesM h rs ss).length, t ≤ y := ht.2
  have ht1 : t ≤ tm := hin _ (by unfold boundsL; simp)
  have ht2 : ∀ a ∈ f, t ≤ (rd rs a).2.2 := fun a ha => hin _ (by
    unfold boundsL
    refine List.mem_append_left _ (List.mem_cons_of_mem _ (List.mem_map.mpr ⟨a, (srtN_perm f).mem_iff.mpr ha, rfl⟩)))
  have ht3 : ∀ m, m < 2 ^ h → 0 < cnt rs f m - nd (K, T, 1) m → t ≤ spareM rs ss m / (cnt rs f m - nd (K, T, 1) m) := fun m hm hp => hin _ (by
    unfold boundsL
    refine List.mem_append_right _ (List.mem_map.mpr ⟨m, List.mem_filter.mpr ⟨List.mem_range.mpr (by rw [sparesM_len]; exact hm), ?_⟩, ?_⟩)
    · rw [hmany]
      exact decide_eq_true hp
    · rw [hmany, sparesM_get hm])
  have ht0 : 1 ≤ t := by
    have hb := ht.1
    unfold boundsL at hb
    rcases List.mem_append.mp hb with hb | hb
    · rcases List.mem_cons.mp hb with e | hb
      · rw [e]
        exact hpos
      · obtain ⟨a, ha, rfl⟩ := List.mem_map.mp hb
        have := (G2.mem a ((srtN_perm f).mem_iff.mp ha)).2
        omega
    · obtain ⟨m, hm, rfl⟩ := List.mem_map.mp hb
      obtain ⟨hm1, hm2⟩ := List.mem_filter.mp hm
      have hm1 : m < 2 ^ h := by have := List.mem_range.mp hm1; rwa [sparesM_len] at this
      have hm2 := of_decide_eq_true hm2
      rw [hmany] at hm2 ⊢
      have := (G3 m hm1).2
      exact Int.le_ediv_of_mul_le hm2 (by omega)
  have hspn : ∀ m, spareM (narrow rs (srtN f) t) (ss.set i (K, T, tm - t)) m = spareM rs ss m - t * (cnt rs f m - nd (K, T, 1) m) := fun m => by
    have hc : cnt rs (srtN f) m = cnt rs f m := sm_perm (srtN_perm f) _
    rw [spareM_eq, spareM_eq, flow_narrow ((srtN_perm f).nodup_iff.mpr hnd) (fun a ha => hlt a ((srtN_perm f).mem_iff.mp ha)), sm_set hs, nd_unit K T m tm, nd_unit K T m (tm - t), hc, Int.sub_mul, Int.mul_sub]
    omega
  have hrem : ∀ m, m < 2 ^ h → 0 < cnt rs f m - nd (K, T, 1) m → t * (cnt rs f m - nd (K, T, 1) m) ≤ spareM rs ss m := fun m hm hp => Int.mul_le_of_le_ediv hp (ht3 m hm hp)
  have hsp0 : ∀ m, m < 2 ^ h → 0 ≤ spareM (narrow rs (srtN f) t) (ss.set i (K, T, tm - t)) m ∧ spareM (narrow rs (srtN f) t) (ss.set i (K, T, tm - t)) m ≤ spareM rs ss m := fun m hm => by
    rw [hspn]
    have h1 := (G3 m hm).1
    have h2 := g.sp m hm
    by_cases hp : 0 < cnt rs f m - nd (K, T, 1) m
    · have := hrem m hm hp
      have : 0 ≤ t * (cnt rs f m - nd (K, T, 1) m) := Int.mul_nonneg (by omega) h1
      omega
    · have e : cnt rs f m - nd (K, T, 1) m = 0 := by omega
      rw [e, Int.mul_zero]
      omega
  have hsub : Sub rs (narrow rs (srtN f) t) := ⟨narrow_len _ _ _, fun a ha => by
    rw [rd_narrow ha]
    refine ⟨rfl, rfl, ?_⟩
    show (if a ∈ srtN f then (rd rs a).2.2 - t else (rd rs a).2.2) ≤ _
    split <;> omega⟩
  have hg : Good h (narrow rs (srtN f) t) (ss.set i (K, T, tm - t)) := by
    refine ⟨g.h6, fun r hr => ?_, fun r hr => ?_, fun s hs2 => ?_, fun m hm => (hsp0 m hm).1⟩
    · obtain ⟨a, ha, rfl⟩ := mem_rd hr
      rw [narrow_len] at ha
      obtain ⟨e1, e2, _⟩ := hsub.at_ a ha
      rw [e1, e2]
      exact g.lt _ (rd_mem ha)
    · obtain ⟨a, ha, rfl⟩ := mem_rd hr
      rw [narrow_len] at ha
      rw [rd_narrow ha]
      show 0 ≤ if a ∈ srtN f then (rd rs a).2.2 - t else (rd rs a).2.2
      split
      · rename_i z
        have := ht2 a ((srtN_perm f).mem_iff.mp z)
        omega
      · exact g.wd _ (rd_mem ha)
    · rcases List.mem_or_eq_of_mem_set hs2 with z | rfl
      · exact ⟨hsub.ok (g.ok _ z).1, (g.ok _ z).2⟩
      · have := hsub.ok oks
        exact ⟨⟨this.sub, this.cl, by show 0 ≤ tm - t; omega, this.lt⟩, v0, hv0⟩
  have hL1 : ∀ m ∈ List.range (2 ^ h), min (spareM (narrow rs (srtN f) t) (ss.set i (K, T, tm - t)) m) 5 ≤ min (spareM rs ss m) 5 := fun m hm => by
    have := (hsp0 m (List.mem_range.mp hm)).2
    omega
  have hL2 : ∀ a ∈ List.range rs.length, b2 (decide (0 < (rd (narrow rs (srtN f) t) a).2.2)) ≤ b2 (decide (0 < (rd rs a).2.2)) := fun a ha => by
    have h1 := (hsub.at_ a (List.mem_range.mp ha)).2.2
    by_cases z : 0 < (rd (narrow rs (srtN f) t) a).2.2
    · rw [decide_eq_true z, decide_eq_true (by omega)]
      exact Int.le_refl _
    · rw [decide_eq_false z]
      exact b2_nn _
  have hE2 : ∀ (r : List Road), (sm r fun r : Road => b2 (decide (0 < r.2.2))) = sm (List.range r.length) fun a => b2 (decide (0 < (rd r a).2.2)) := fun r => sm_rd _
  have hE3 := sm_set (b := ((K, T, tm - t) : Stm)) hs fun s : Stm => b2 (decide (0 < s.2.2))
  have hq : b2 (decide (0 < ((K, T, tm) : Stm).2.2)) = 1 := by rw [decide_eq_true (show 0 < ((K, T, tm) : Stm).2.2 from hpos)]; rfl
  have hq2 : b2 (decide (0 < ((K, T, tm - t) : Stm).2.2)) ≤ 1 := by cases decide (0 < ((K, T, tm - t) : Stm).2.2) <;> decide
  refine ⟨f, t, G1, G2, ht, hf5, fun m hm hp => ?_, ht0, ht1, ht2, hg, ?_⟩
  · rw [hmany] at hp ⊢
    have h1 := cnt_len rs f m
    have h2 : 0 ≤ nd (K, T, 1) m := nd_nn (s := (K, T, 1)) (by show (0 : Int) ≤ 1; decide) m
    have := divW_ok (m := (cnt rs f m - nd (K, T, 1) m).toNat) (by omega) (by omega) ((sparesM h rs ss).getD m 0)
    rwa [Int.toNat_of_nonneg (by omega)] at this
  · have hs1 := sm_le hL1
    have hs2 := sm_le hL2
    have nl : (narrow rs (srtN f) t).length = rs.length := narrow_len _ _ _
    show phi h (narrow rs (srtN f) t) (ss.set i (K, T, tm - t)) < phi h rs ss
    unfold phi
    rw [hE2, hE2 rs, nl, hE3, hq]
    have hb := ht.1
    unfold boundsL at hb
    rcases List.mem_append.mp hb with hb | hb
    · rcases List.mem_cons.mp hb with e | hb
      · have e : t = tm := e
        have : b2 (decide (0 < ((K, T, tm - t) : Stm).2.2)) = 0 := by
          rw [decide_eq_false (show ¬0 < tm - t by omega)]
          rfl
        omega
      · obtain ⟨a, ha, e⟩ := List.mem_map.mp hb
        have hal := hlt a ((srtN_perm f).mem_iff.mp ha)
        have := sm_lt_of hL2 (List.mem_range.mpr hal) (by
          rw [rd_narrow hal]
          have h1 : ¬0 < (if a ∈ srtN f then (rd rs a).2.2 - t else (rd rs a).2.2) := by rw [if_pos ha]; omega
          have h2 : 0 < (rd rs a).2.2 := by omega
          show b2 (decide (0 < (if a ∈ srtN f then (rd rs a).2.2 - t else (rd rs a).2.2))) < _
          rw [decide_eq_false h1, decide_eq_true h2]
          decide)
        omega
    · obtain ⟨m, hm, e⟩ := List.mem_map.mp hb
      obtain ⟨hm1, hm2⟩ := List.mem_filter.mp hm
      have hm1 : m < 2 ^ h := by have := List.mem_range.mp hm1; rwa [sparesM_len] at this
      have hm2 := of_decide_eq_true hm2
      rw [hmany] at hm2 e
      rw [sparesM_get hm1] at e
      have := sm_lt_of hL1 (List.mem_range.mpr hm1) (by
        have h1 : 0 ≤ nd (K, T, 1) m := nd_nn (s := (K, T, 1)) (by show (0 : Int) ≤ 1; decide) m
        have h2 := cnt_len rs f m
        have h3 : spareM rs ss m - t * (cnt rs f m - nd (K, T, 1) m) < cnt rs f m - nd (K, T, 1) m := by
          rw [← e, Int.mul_comm, ← Int.emod_def]
          exact Int.emod_lt_of_pos _ hm2
        have h4 := hrem m hm1 hm2
        have h5 : 0 < t * (cnt rs f m - nd (K, T, 1) m) := Int.mul_pos (by omega) hm2
        show min (spareM (narrow rs (srtN f) t) (ss.set i (K, T, tm - t)) m) 5 < _
        rw [hspn]
        omega)
      omega
end TB
set_option Elab.async false
set_option linter.all false
set_option autoImplicit false
set_option maxRecDepth 100000
set_option maxHeartbeats 4000000
namespace TB
open PySem PySem.Spec PyProof.Rows L2
def RowG (h : Nat) (rs : List Road) (K T : Nat) (r : Rwx) : Prop := 1 ≤ r.2 ∧ ∃ f, r.1 = srtN f ∧ GF h rs K T f ∧ f.length ≤ 5
theorem useOf_eq (rows : List Rwx) (a : Nat) : useOf rows a = sm rows fun r => if a ∈ r.1 then r.2 else 0 := by
  unfold useOf
  rw [sm_filter]
  simp only [decide_eq_true_eq]
theorem useOf_cons (r : Rwx) (rows : List Rwx) (a : Nat) : useOf (r :: rows) a = (if a ∈ r.1 then r.2 else 0) + useOf rows a := by
  rw [useOf_eq, useOf_eq, sm_cons]
theorem inn_ex {h i K T : Nat} : ∀ (n : Nat) (rs : List Road) (ss : List Stm) (tm : Int), phi h rs ss ≤ n → Good h rs ss → ss[i]? = some (K, T, tm) →
    ∃ rows rs2, Inn h i rs ss rows rs2 (ss.set i (K, T, 0)) ∧ Good h rs2 (ss.set i (K, T, 0)) ∧ Sub rs rs2 ∧ (∀ r ∈ rows, RowG h rs K T r) ∧ (sm rows fun r => r.2) = tm ∧ (∀ a, a < rs.length → (rd rs2 a).2.2 = (rd rs a).2.2 - useOf rows a) ∧ (rows.length : Int) + phi h rs2 (ss.set i (K, T, 0)) ≤ phi h rs ss := by
  have base : ∀ (rs : List Road) (ss : List Stm) (tm : Int), Good h rs ss → ss[i]? = some (K, T, tm) → tm ≤ 0 → ∃ rows rs2, Inn h i rs ss rows rs2 (ss.set i (K, T, 0)) ∧ Good h rs2 (ss.set i (K, T, 0)) ∧ Sub rs rs2 ∧ (∀ r ∈ rows, RowG h rs K T r) ∧ (sm rows fun r => r.2) = tm ∧ (∀ a, a < rs.length → (rd rs2 a).2.2 = (rd rs a).2.2 - useOf rows a) ∧ (rows.length : Int) + phi h rs2 (ss.set i (K, T, 0)) ≤ phi h rs ss := by
    intro rs ss tm g hs ht
    have h0 : 0 ≤ tm := (g.ok _ (List.mem_of_getElem? hs)).1.nn
    have e : tm = 0 := by omega
    subst e
    rw [set_same hs]
    exact ⟨[], rs, .done hs (Int.le_refl _), g, Sub.refl _, fun r hr => (by cases hr), rfl, fun a _ => by rw [useOf_eq, sm_nil, Int.sub_zero], by rw [List.length_nil]; omega⟩
  intro n
  induction n with
  | zero =>
    intro rs ss tm hn g hs
    by_cases hp : 0 < tm
    · obtain ⟨f, t, _, _, _, _, _, _, _, _, g2, hphi⟩ := round g hs hp
      have := g2.phi_nn
      omega
    · exact base rs ss tm g hs (by omega)
  | succ n ih =>
    intro rs ss tm hn g hs
    by_cases hp : 0 < tm
    · obtain ⟨f, t, G1, G2, ht, hf5, hC, ht0, ht1, ht2, g2, hphi⟩ := round g hs hp
      have hi : i < ss.length := (List.getElem?_eq_some_iff.mp hs).1
      obtain ⟨rows, rs2, I1, I2, I3, I4, I5, I6, I7⟩ := ih (narrow rs (srtN f) t) (ss.set i (K, T, tm - t)) (tm - t) (by
        have : phi h (narrow rs (srtN f) t) (ss.set i (K, T, tm - t)) < phi h rs ss := hphi
        omega) g2 (by rw [List.getElem?_set_self hi])
      rw [List.set_set] at I1 I2 I7
      have hlt : ∀ a ∈ f, a < rs.length := fun a ha => (G2.mem a ha).1
      have hsub : Sub rs (narrow rs (srtN f) t) := ⟨narrow_len _ _ _, fun a ha => by
        rw [rd_narrow ha]
        refine ⟨rfl, rfl, ?_⟩
        show (if a ∈ srtN f then (rd rs a).2.2 - t else (rd rs a).2.2) ≤ _
        split <;> omega⟩
      refine ⟨(srtN f, t) :: rows, rs2, .step hs hp G1 ht (by omega) hlt hC I1, I2, hsub.trans I3, fun r hr => ?_, ?_, fun a ha => ?_, ?_⟩
      · rcases List.mem_cons.mp hr with rfl | hr
        · exact ⟨ht0, f, rfl, G2, hf5⟩
        · obtain ⟨h1, f2, h2, h3, h4⟩ := I4 r hr
          exact ⟨h1, f2, h2, hsub.gf h3, h4⟩
      · rw [sm_cons, I5]
        show t + (tm - t) = tm
        omega
      · rw [I6 a (by rw [narrow_len]; exact ha), rd_narrow ha, useOf_cons]
        show (if a ∈ srtN f then (rd rs a).2.2 - t else (rd rs a).2.2) - useOf rows a = (rd rs a).2.2 - ((if a ∈ srtN f then t else 0) + useOf rows a)
        split <;> omega
      · have : phi h (narrow rs (srtN f) t) (ss.set i (K, T, tm - t)) < phi h rs ss := hphi
        rw [List.length_cons]
        omega
    · exact base rs ss tm g hs (by omega)
theorem out_ex {h : Nat} : ∀ (n a : Nat) (rs : List Road) (ss : List Stm), ss.length - a ≤ n → Good h rs ss →
    ∃ res, Out h a rs ss res ∧ (∀ (j : Nat) (s : Stm) (rows : List Rwx), ss[a + j]? = some s → res[j]? = some rows → (∀ r ∈ rows, RowG h rs s.1 s.2.1 r) ∧ (sm rows fun r => r.2) = s.2.2) ∧ (∀ x, x < rs.length → (sm res fun rows => useOf rows x) ≤ (rd rs x).2.2) ∧ (sm res fun rows => (rows.length : Int)) ≤ phi h rs ss := by
  intro n
  induction n with
  | zero =>
    intro a rs ss hn g
    exact ⟨[], .done (by omega), fun j s rows _ hr => (by cases hr), fun x hx => (by rw [sm_nil]; exact g.wd _ (rd_mem hx)), (by rw [sm_nil]; exact g.phi_nn)⟩
  | succ n ih =>
    intro a rs ss hn g
    by_cases ha : a < ss.length
    · obtain ⟨⟨K, T, tm⟩, hs⟩ : ∃ s, ss[a]? = some s := ⟨_, List.getElem?_eq_getElem ha⟩
      obtain ⟨rows, rs2, I1, I2, I3, I4, I5, I6, I7⟩ := inn_ex (phi h rs ss).toNat rs ss tm (Int.self_le_toNat _) g hs
      obtain ⟨res, O1, O2, O3, O4⟩ := ih (a + 1) rs2 (ss.set a (K, T, 0)) (by rw [List.length_set]; omega) I2
      refine ⟨rows :: res, .step ha I1 O1, fun j s rows2 h1 h2 => ?_, fun x hx => ?_, ?_⟩
      · cases j with
        | zero =>
          rw [Nat.add_zero, hs] at h1
          cases h1
          cases h2
          exact ⟨I4, I5⟩
        | succ j =>
          have h2 : res[j]? = some rows2 := by simpa using h2
          have h3 : (ss.set a (K, T, 0))[a + 1 + j]? = some s := by
            rw [List.getElem?_set_ne (by omega)]
            rw [← h1]
            congr 1
            omega
          obtain ⟨o1, o2⟩ := O2 j s rows2 h3 h2
          exact ⟨fun r hr => by
            obtain ⟨h1, f2, h2, h3, h4⟩ := o1 r hr
            exact ⟨h1, f2, h2, I3.gf h3, h4⟩, o2⟩
      · have := O3 x (by rw [I3.len]; exact hx)
        rw [I6 x hx] at this
        rw [sm_cons]
        omega
      · rw [sm_cons]
        omega
    · exact ⟨[], .done (by omega), fun j s rows _ hr => (by cases hr), fun x hx => (by rw [sm_nil]; exact g.wd _ (rd_mem hx)), (by rw [sm_nil]; exact g.phi_nn)⟩
theorem sm_const {α : Type} {l : List α} {f : α → Int} {c : Int} (h : ∀ a ∈ l, f a ≤ c) : sm l f ≤ c * l.length := by
  induction l with
  | nil => rw [sm_nil, List.length_nil]; simp
  | cons a l ih =>
    rw [sm_cons, List.length_cons]
    have := h a List.mem_cons_self
    have := ih fun b hb => h b (List.mem_cons_of_mem _ hb)
    rw [Int.natCast_add, Int.mul_add]
    omega
theorem phi_le {h : Nat} {rs : List Road} {ss : List Stm} (hh : h ≤ 6) : phi h rs ss ≤ 320 + rs.length + ss.length := by
  have h1 : (sm (List.range (2 ^ h)) fun m => min (spareM rs ss m) 5) ≤ 5 * (List.range (2 ^ h)).length := sm_const fun m _ => by omega
  have h2 : (sm rs fun r => b2 (decide (0 < r.2.2))) ≤ 1 * rs.length := sm_const fun r _ => by cases decide (0 < r.2.2) <;> decide
  have h3 : (sm ss fun s => b2 (decide (0 < s.2.2))) ≤ 1 * ss.length := sm_const fun r _ => by cases decide (0 < r.2.2) <;> decide
  have h4 : 2 ^ h ≤ 64 := Nat.pow_le_pow_right (n := 2) (by decide) hh
  rw [List.length_range] at h1
  unfold phi
  omega
end TB
set_option Elab.async false
set_option linter.all false
set_option autoImplicit false
set_option maxRecDepth 100000
set_option maxHeartbeats 4000000
/-! lots and masks -/
namespace TB
open PySem PySem.Spec PyProof.Rows L2
def lotM (h m : Nat) : List Nat := (List.range h).filter fun v => m.testBit v
theorem lotM_all : ∀ h, h < 7 → ∀ m, m < 2 ^ h → m ≠ 0 → lotM h m ∈ lotsL h ∧ maskOf (lotM h m) = m := by decide +kernel
theorem lot_mask {h : Nat} {l : List Nat} (hh : h ≤ 6) (hl : l ≠ []) (hp : l.Pairwise (· < ·)) (hv : ∀ v ∈ l, v < h) : l ∈ lotsL h ∧ maskOf l < 2 ^ h ∧ ∀ v, (maskOf l).testBit v = decide (v ∈ l) := by
  obtain ⟨m, hm, hb⟩ := msk_ex h fun v => decide (v ∈ l)
  have hb' : ∀ v, m.testBit v = decide (v ∈ l) := fun v => by
    rw [hb, Bool.eq_iff_iff, Bool.and_eq_true, decide_eq_true_eq, decide_eq_true_eq]
    exact ⟨fun z => z.2, fun z => ⟨hv v z, z⟩⟩
  have e : lotM h m = l := lt_sortedN_eq (List.pairwise_lt_range.filter _) hp fun v => by
    unfold lotM
    rw [List.mem_filter, List.mem_range, hb', decide_eq_true_eq]
    exact ⟨fun z => z.2, fun z => ⟨hv v z, z⟩⟩
  have m0 : m ≠ 0 := fun z => by
    obtain ⟨v, hvl⟩ := List.exists_mem_of_ne_nil l hl
    have := hb' v
    rw [z, Nat.zero_testBit, decide_eq_true hvl] at this
    cases this
  obtain ⟨q1, q2⟩ := lotM_all h (by omega) m hm m0
  rw [e] at q1 q2
  rw [q2]
  exact ⟨q1, hm, hb'⟩
theorem maskOf_perm {l l' : List Nat} (p : l.Perm l') : maskOf l = maskOf l' := by
  unfold maskOf
  exact (p.map _).sum_nat
theorem tbM {l : List Nat} (nd : l.Nodup) (hv : ∀ v ∈ l, v < 6) (v : Nat) : (maskOf l).testBit v = decide (v ∈ l) := by
  by_cases h0 : l = []
  · subst h0
    show (0 : Nat).testBit v = _
    rw [Nat.zero_testBit]
    simp
  · rw [← maskOf_perm (srtN_perm l)]
    rw [(lot_mask (h := 6) (Nat.le_refl _) (fun z => h0 (by have := (srtN_perm l).length_eq; rw [z] at this; exact List.eq_nil_of_length_eq_zero this.symm)) (srtN_lt nd) fun v q => hv v ((srtN_perm l).mem_iff.mp q)).2.2]
    exact decide_eq_decide.mpr (srtN_perm l).mem_iff
theorem LotOk.tb {h : Nat} {l : List Nat} (x : LotOk h l) (hh : h ≤ 6) (v : Nat) : (maskOf l).testBit v = decide (v ∈ l) := tbM x.nd (x.v6 hh) v
theorem LotOk.lt2 {h : Nat} {l : List Nat} (x : LotOk h l) (hh : h ≤ 6) : l ∈ lotsL h ∧ maskOf l < 2 ^ h := by
  obtain ⟨a, b, _⟩ := lot_mask hh x.1 x.2.1 x.2.2
  exact ⟨a, b⟩
theorem heard_sub {rs : List Road} {K : List Nat} (h6 : ∀ v ∈ K, v < 6) {v : Nat} (hv : v ∈ K) : v ∈ heardL rs K := mem_led.mpr ⟨h6 v hv, .base hv⟩
theorem NetOk.heard {h : Nat} {rs : List Road} (n : NetOk h rs) {K : List Nat} (hK : LotOk h K) : LotOk h (heardL rs K) := by
  refine ⟨fun z => ?_, led_lt _ _, fun v hv => ?_⟩
  · obtain ⟨v, hvl⟩ := List.exists_mem_of_ne_nil K hK.1
    have := heard_sub (rs := rs) (hK.v6 n.h6) hvl
    rw [z] at this
    cases this
  · obtain ⟨_, r⟩ := mem_led.mp hv
    cases r with
    | base q => exact hK.2.2 v q
    | step q _ =>
      unfold pos at q
      obtain ⟨r, hr, e⟩ := List.mem_map.mp q
      have := (n.road r (List.mem_filter.mp hr).1).2.1
      have e2 : r.2.1 = v := congrArg Prod.snd e
      omega
theorem heard_cl {h : Nat} {rs : List Road} (n : NetOk h rs) {K : List Nat} {r : Road} (hr : r ∈ rs) (hp : 0 < r.2.2) (hs : r.1 ∈ heardL rs K) : r.2.1 ∈ heardL rs K := by
  obtain ⟨_, q⟩ := mem_led.mp hs
  have := (n.road r hr).2.1
  have := n.h6
  refine mem_led.mpr ⟨by omega, .step (u := r.1) ?_ q⟩
  unfold pos
  exact List.mem_map.mpr ⟨r, List.mem_filter.mpr ⟨hr, decide_eq_true hp⟩, rfl⟩
theorem meet_hit {l K : List Nat} {m k : Nat} (hl : ∀ v, m.testBit v = decide (v ∈ l)) (hk : ∀ v, k.testBit v = decide (v ∈ K)) : meetB l K = true ↔ Hit m k := by
  unfold meetB Hit
  rw [List.any_eq_true]
  refine exists_congr fun v => ?_
  rw [hl, hk, decide_eq_true_eq, decide_eq_true_eq]
theorem need_meet {l K H : List Nat} {m k t : Nat} (hl : ∀ v, m.testBit v = decide (v ∈ l)) (hk : ∀ v, k.testBit v = decide (v ∈ K)) (ht : ∀ v, t.testBit v = decide (v ∈ H)) (x : Int) : nd (k, t, x) m = if (meetB l H && !meetB l K) = true then x else 0 := by
  unfold nd
  have : needB (k, t, x) m = (meetB l H && !meetB l K) := by
    rw [Bool.eq_iff_iff, needB_iff, Bool.and_eq_true, Bool.not_eq_true', meet_hit hl ht]
    have := meet_hit hl hk
    constructor
    · rintro ⟨a, b⟩
      refine ⟨b, ?_⟩
      cases q : meetB l K with
      | false => rfl
      | true => exact absurd (this.mp q) a
    · rintro ⟨a, b⟩
      refine ⟨fun z => ?_, a⟩
      rw [this.mpr z] at b
      cases b
  rw [this]
theorem entL_ent {l : List Nat} {m : Nat} (hl : ∀ v, m.testBit v = decide (v ∈ l)) (r : Road) : entL r l = ent r m := by
  unfold entL ent
  rw [hl, hl]
theorem flow_in {rs : List Road} {l : List Nat} {m : Nat} (hl : ∀ v, m.testBit v = decide (v ∈ l)) : flowL rs l = inflowM rs m := by
  unfold flowL inflowM
  have : (fun r => entL r l) = fun r => ent r m := funext fun r => entL_ent hl r
  rw [this]
theorem entCnt_eq {rs : List Road} {l row : List Nat} {m : Nat} (hl : ∀ v, m.testBit v = decide (v ∈ l)) : (entCnt rs l row : Int) = cnt rs row m := by
  unfold entCnt cnt
  have : (fun a => entL (rd rs a) l) = fun a => ent (rd rs a) m := funext fun a => entL_ent hl _
  rw [this]
  induction row with
  | nil => rfl
  | cons a row ih =>
    rw [sm_cons, List.filter_cons]
    cases ent (rd rs a) m with
    | true =>
      rw [if_pos rfl, List.length_cons, Int.natCast_add, ih]
      show _ + 1 = 1 + _
      omega
    | false =>
      rw [if_neg (by decide), ih]
      show _ = 0 + _
      omega
theorem cnt_narrow {rs : List Road} {f row : List Nat} {t : Int} {m : Nat} (hl : ∀ a ∈ row, a < rs.length) : cnt (narrow rs f t) row m = cnt rs row m := by
  unfold cnt
  refine sm_congr fun a ha => ?_
  unfold ent
  rw [rd_narrow (hl a ha)]
theorem rest_flow {rs : List Road} (m : Nat) : ∀ (B : List Ent), (∀ e ∈ B, e.2.1.Nodup ∧ ∀ a ∈ e.2.1, a < rs.length) → inflowM (restB rs B) m = inflowM rs m - sm B fun e => e.2.2 * cnt rs e.2.1 m := by
  intro B
  induction B generalizing rs with
  | nil => intro _; show inflowM rs m = inflowM rs m - 0; omega
  | cons e B ih =>
    intro hB
    obtain ⟨h1, h2⟩ := hB e List.mem_cons_self
    have e1 : restB rs (e :: B) = restB (narrow rs e.2.1 e.2.2) B := rfl
    rw [e1, ih fun e' he' => by rw [narrow_len]; exact hB e' (List.mem_cons_of_mem _ he'), flow_narrow h1 h2, sm_cons]
    have : (sm B fun e' => e'.2.2 * cnt (narrow rs e.2.1 e.2.2) e'.2.1 m) = sm B fun e' => e'.2.2 * cnt rs e'.2.1 m := sm_congr fun e' he' => by
      rw [cnt_narrow (hB e' (List.mem_cons_of_mem _ he')).2]
    rw [this]
    omega
theorem rest_rd {rs : List Road} {a : Nat} (ha : a < rs.length) : ∀ (B : List Ent), rd (restB rs B) a = ((rd rs a).1, (rd rs a).2.1, (rd rs a).2.2 - sm B fun e => if a ∈ e.2.1 then e.2.2 else 0) := by
  intro B
  induction B generalizing rs with
  | nil => show rd rs a = (_, _, _ - 0); rw [Int.sub_zero]
  | cons e B ih =>
    have e1 : restB rs (e :: B) = restB (narrow rs e.2.1 e.2.2) B := rfl
    rw [e1, ih (by rw [narrow_len]; exact ha), rd_narrow ha, sm_cons]
    refine Prod.ext rfl (Prod.ext rfl ?_)
    show (if a ∈ e.2.1 then (rd rs a).2.2 - e.2.2 else (rd rs a).2.2) - (sm B fun e => if a ∈ e.2.1 then e.2.2 else 0) = (rd rs a).2.2 - ((if a ∈ e.2.1 then e.2.2 else 0) + sm B fun e => if a ∈ e.2.1 then e.2.2 else 0)
    split <;> omega
theorem use_ents (B : List Ent) (a : Nat) : useOf (B.map fun e => e.2) a = sm B fun e => if a ∈ e.2.1 then e.2.2 else 0 := by
  rw [useOf_eq, sm_map]
theorem leftL_eq (rs : List Road) (ms : List Msg) (B : List Ent) (l : List Nat) : leftL rs ms B l = flowL rs l - needZ (restsM ms B) (ms.map fun m => heardL rs m.1) l ms.length - (sm B fun e => (if (meetB l (heardL rs (md ms e.1).1) && !meetB l (knowB rs ms e)) = true then e.2.2 else 0) + e.2.2 * (entCnt rs l e.2.1 : Int)) := by
  unfold leftL
  generalize flowL rs l - needZ (restsM ms B) (ms.map fun m => heardL rs m.1) l ms.length = z
  induction B generalizing z with
  | nil => show z = z - 0; omega
  | cons e B ih =>
    rw [List.foldl_cons, ih, sm_cons]
    unfold leftStep
    split <;> omega
theorem restsM_md {ms : List Msg} {B : List Ent} {n : Nat} (h : n < ms.length) : md (restsM ms B) n = ((md ms n).1, (md ms n).2 - sumOf B n) := by
  have : (restsM ms B)[n]? = some ((md ms n).1, (md ms n).2 - sumOf B n) := by
    unfold restsM
    have z : (List.zip ms ((List.range ms.length).map (sumOf B)))[n]? = some (md ms n, sumOf B n) := List.getElem?_zip_eq_some.mpr ⟨md_get h, by rw [List.getElem?_map, List.getElem?_range h]; rfl⟩
    rw [List.getElem?_map, z]
    rfl
  unfold md
  rw [List.getD_eq_getElem?_getD, this]
  rfl
theorem heards_get {rs : List Road} {ms : List Msg} {n : Nat} (h : n < ms.length) : (ms.map fun m => heardL rs m.1).getD n [] = heardL rs (md ms n).1 := by
  rw [List.getD_eq_getElem?_getD, List.getElem?_map, md_get h]
  rfl
theorem need_rests (rs : List Road) (ms : List Msg) (B : List Ent) (l : List Nat) : needZ (restsM ms B) (ms.map fun m => heardL rs m.1) l ms.length = sm (List.range ms.length) fun n => if (meetB l (heardL rs (md ms n).1) && !meetB l (md ms n).1) = true then (md ms n).2 - sumOf B n else 0 := by
  unfold needZ
  rw [sm_filter]
  refine sm_congr fun n hn => ?_
  have hn := List.mem_range.mp hn
  rw [restsM_md hn, heards_get hn, Bool.and_comm]
section
variable {h : Nat} {rs : List Road} {ms : List Msg} {B : List Ent}
theorem NewsOk.k (ok : NewsOk h rs ms) {n : Nat} (hn : n < ms.length) (v : Nat) : (maskOf (md ms n).1).testBit v = decide (v ∈ (md ms n).1) := (ok.lot hn).tb ok.net.h6 v
theorem NewsOk.hd (ok : NewsOk h rs ms) {n : Nat} (hn : n < ms.length) (v : Nat) : (maskOf (heardL rs (md ms n).1)).testBit v = decide (v ∈ heardL rs (md ms n).1) := (ok.net.heard (ok.lot hn)).tb ok.net.h6 v
theorem kb_tb (ok : NewsOk h rs ms) {e : Ent} (he : e.1 < ms.length) (hr : RowOk rs e.2.1) (hl : LedOk rs (md ms e.1).1 e.2.1) (v : Nat) : (maskOf (md ms e.1).1 ||| maskOf (ends rs e.2.1)).testBit v = decide (v ∈ knowB rs ms e) := by
  rw [Nat.testBit_or, ok.k he, tbM hl.1 (ends6 ok.net hr)]
  unfold knowB
  rw [Bool.eq_iff_iff, Bool.or_eq_true, decide_eq_true_eq, decide_eq_true_eq, decide_eq_true_eq, List.mem_append]
/-- what the law reckons is what the program reckons -/
theorem left_spare (ok : NewsOk h rs ms) (bo : BegOk rs ms B) {l : List Nat} (hl : LotOk h l) : leftL rs ms B l = spareM (restB rs B) (streamsLeft rs ms B) (maskOf l) := by
  have hlb := hl.tb ok.net.h6
  rw [leftL_eq, spareM_eq, rest_flow _ B fun e he => ⟨(bo.ent e he).2.1.nd, fun a ha => ((bo.ent e he).2.1.2 a ha).1⟩, flow_in hlb, need_rests]
  unfold streamsLeft
  rw [sm_append, sm_map, sm_map, sm_add]
  have e1 : (sm B fun e => e.2.2 * (entCnt rs l e.2.1 : Int)) = sm B fun e => e.2.2 * cnt rs e.2.1 (maskOf l) := sm_congr fun e _ => by rw [entCnt_eq hlb]
  have e2 : (sm B fun e => if (meetB l (heardL rs (md ms e.1).1) && !meetB l (knowB rs ms e)) = true then e.2.2 else 0) = sm B fun e => nd (maskOf (md ms e.1).1 ||| maskOf (ends rs e.2.1), maskOf (heardL rs (md ms e.1).1), e.2.2) (maskOf l) := sm_congr fun e he => by
    obtain ⟨⟨h1, _⟩, h2, h3⟩ := bo.ent e he
    rw [need_meet hlb (kb_tb ok h1 h2 h3) (ok.hd h1)]
  have e3 : (sm (List.range ms.length) fun n => if (meetB l (heardL rs (md ms n).1) && !meetB l (md ms n).1) = true then (md ms n).2 - sumOf B n else 0) = sm (List.range ms.length) fun n => nd (maskOf (md ms n).1, maskOf (heardL rs (md ms n).1), (md ms n).2 - sumOf B n) (maskOf l) := sm_congr fun n hn => by
    have hn := List.mem_range.mp hn
    rw [need_meet hlb (ok.k hn) (ok.hd hn)]
  rw [e1, e2, e3]
  omega
theorem lots_lackM (ok : NewsOk h rs ms) (bo : BegOk rs ms B) : ((lotsL h).filter fun l => decide (leftL rs ms B l < 0)) = lackM h rs ms B := by
  unfold lackM
  refine List.filter_congr fun l hl => ?_
  have hl2 : LotOk h l := lotsL_ok h (by have := ok.net.h6; omega) l hl
  rw [left_spare ok bo hl2, sparesM_get (hl2.lt2 ok.net.h6).2]
theorem beg_nil (ok : NewsOk h rs ms) : BegOk rs ms [] := ⟨Nat.zero_le _, fun e he => (by cases he), fun a ha => by
  show (0 : Int) ≤ _
  exact (ok.net.road _ (rd_mem ha)).2.2.2.1, fun n hn => by
  show (0 : Int) ≤ _
  have := (ok.msg _ (md_mem hn)).2.1
  omega⟩
theorem streams_nil : streamsLeft rs ms [] = streamsOf rs ms := by
  unfold streamsLeft streamsOf
  rw [List.map_nil, List.nil_append]
  refine List.map_congr_left fun n _ => ?_
  have : sumOf ([] : List Ent) n = 0 := rfl
  rw [this, Int.sub_zero]
theorem lack_nil (ok : NewsOk h rs ms) (hL : lacks h rs ms = []) : lackM h rs ms [] = [] := by
  rw [← lots_lackM ok (beg_nil ok), List.filter_eq_nil_iff]
  intro l hl
  unfold lacks at hL
  have := List.filter_eq_nil_iff.mp hL l hl
  rw [decide_eq_true_eq] at this ⊢
  rw [leftL_eq, sm_nil]
  have e : needZ (restsM ms []) (ms.map fun m => heardL rs m.1) l ms.length = needN rs ms l := by
    rw [← needZ_N]
    have : restsM ms [] = ms := by
      refine List.ext_getElem? fun i => ?_
      by_cases hi : i < ms.length
      · have h1 := md_get (ms := restsM ms []) (a := i) (by rw [restsM_len]; exact hi)
        rw [h1, restsM_md hi, md_get hi]
        have : sumOf ([] : List Ent) i = 0 := rfl
        rw [this, Int.sub_zero]
      · rw [List.getElem?_eq_none (by rw [restsM_len]; omega), List.getElem?_eq_none (by omega)]
    rw [this]
  rw [e]
  omega
/-- no lot lacks: nothing lacks -/
theorem spare_all (ok : NewsOk h rs ms) (hL : lackM h rs ms B = []) {m : Nat} (hm : m < 2 ^ h) : 0 ≤ spareM (restB rs B) (streamsLeft rs ms B) m := by
  by_cases h0 : m = 0
  · subst h0
    rw [spareM_eq, inflowM_eq, sm_zero fun r _ => ?_, sm_zero fun s _ => ?_]
    · decide
    · exact nd_no fun ⟨v, h1, _⟩ => by rw [Nat.zero_testBit] at h1; cases h1
    · unfold fl ent
      rw [Nat.zero_testBit]
      rfl
  · obtain ⟨h1, h2⟩ := lotM_all h (by have := ok.net.h6; omega) m hm h0
    unfold lackM at hL
    have := List.filter_eq_nil_iff.mp hL _ h1
    rw [h2, sparesM_get hm, decide_eq_true_eq] at this
    omega
theorem rest_sub (ok : NewsOk h rs ms) (bo : BegOk rs ms B) : Sub rs (restB rs B) := ⟨restB_len _ _, fun a ha => by
  rw [rest_rd ha]
  refine ⟨rfl, rfl, ?_⟩
  have : 0 ≤ sm B fun e => if a ∈ e.2.1 then e.2.2 else 0 := sm_nn fun e he => by
    have := (bo.ent e he).1.2
    split <;> omega
  show (rd rs a).2.2 - _ ≤ _
  omega⟩
theorem good_left (ok : NewsOk h rs ms) (bo : BegOk rs ms B) (hL : lackM h rs ms B = []) : Good h (restB rs B) (streamsLeft rs ms B) := by
  have hh := ok.net.h6
  have sub := rest_sub ok bo
  refine ⟨hh, fun r hr => ?_, fun r hr => ?_, fun s hs => ?_, fun m hm => spare_all ok hL hm⟩
  · obtain ⟨a, ha, rfl⟩ := mem_rd hr
    rw [restB_len] at ha
    rw [rest_rd ha]
    have := ok.net.road _ (rd_mem ha)
    exact ⟨this.1, this.2.1⟩
  · obtain ⟨a, ha, rfl⟩ := mem_rd hr
    rw [restB_len] at ha
    rw [rest_rd ha]
    have := bo.bear a ha
    rw [use_ents] at this
    show 0 ≤ (rd rs a).2.2 - _
    omega
  · have hT : ∀ n, n < ms.length → ∀ r ∈ rs, 0 < r.2.2 → (maskOf (heardL rs (md ms n).1)).testBit r.1 = true → (maskOf (heardL rs (md ms n).1)).testBit r.2.1 = true := fun n hn r hr hp h1 => by
      rw [ok.hd hn, decide_eq_true_eq] at h1 ⊢
      exact heard_cl ok.net hr hp h1
    have hlt : ∀ n, n < ms.length → maskOf (heardL rs (md ms n).1) < 2 ^ h := fun n hn => ((ok.net.heard (ok.lot hn)).lt2 hh).2
    have hne : ∀ n, n < ms.length → ∃ v, v ∈ (md ms n).1 := fun n hn => List.exists_mem_of_ne_nil _ (ok.lot hn).1
    unfold streamsLeft at hs
    rcases List.mem_append.mp hs with hs | hs
    · obtain ⟨e, he, rfl⟩ := List.mem_map.mp hs
      obtain ⟨⟨h1, h2⟩, h3, h4⟩ := bo.ent e he
      refine ⟨sub.ok (s := (maskOf (md ms e.1).1 ||| maskOf (ends rs e.2.1), maskOf (heardL rs (md ms e.1).1), e.2.2)) ⟨fun v hv => ?_, hT _ h1, by show 0 ≤ e.2.2; omega, hlt _ h1⟩, ?_⟩
      · have hv : (maskOf (md ms e.1).1 ||| maskOf (ends rs e.2.1)).testBit v = true := hv
        show (maskOf (heardL rs (md ms e.1).1)).testBit v = true
        rw [kb_tb ok h1 h3 h4, decide_eq_true_eq] at hv
        rw [ok.hd h1, decide_eq_true_eq]
        unfold knowB at hv
        rcases List.mem_append.mp hv with z | z
        · exact heard_sub ((ok.lot h1).v6 hh) z
        · exact mem_led.mpr ⟨ends6 ok.net h3 v z, reach_pos h3 (h4.2.2 v z)⟩
      · obtain ⟨v, hv⟩ := hne _ h1
        refine ⟨v, ?_⟩
        show (maskOf (md ms e.1).1 ||| maskOf (ends rs e.2.1)).testBit v = true
        rw [kb_tb ok h1 h3 h4, decide_eq_true_eq]
        exact List.mem_append_left _ hv
    · obtain ⟨n, hn, rfl⟩ := List.mem_map.mp hs
      have hn := List.mem_range.mp hn
      refine ⟨sub.ok (s := (maskOf (md ms n).1, maskOf (heardL rs (md ms n).1), (md ms n).2 - sumOf B n)) ⟨fun v hv => ?_, hT _ hn, by show 0 ≤ (md ms n).2 - sumOf B n; have := bo.sums n hn; omega, hlt _ hn⟩, ?_⟩
      · have hv : (maskOf (md ms n).1).testBit v = true := hv
        show (maskOf (heardL rs (md ms n).1)).testBit v = true
        rw [ok.k hn, decide_eq_true_eq] at hv
        rw [ok.hd hn, decide_eq_true_eq]
        exact heard_sub ((ok.lot hn).v6 hh) hv
      · obtain ⟨v, hv⟩ := hne _ hn
        refine ⟨v, ?_⟩
        show (maskOf (md ms n).1).testBit v = true
        rw [ok.k hn, decide_eq_true_eq]
        exact hv
end
end TB
set_option Elab.async false
set_option linter.all false
set_option autoImplicit false
set_option maxRecDepth 100000
set_option maxHeartbeats 4000000
/-! a finish as it is reckoned is right; a cut of a plan never lacks -/
namespace TB
open PySem PySem.Spec PyProof.Rows L2
theorem sm_flat {α β : Type} (l : List α) (f : α → List β) (k : β → Int) : sm (l.flatMap f) k = sm l fun a => sm (f a) k := by
  induction l with
  | nil => rfl
  | cons a l ih => rw [List.flatMap_cons, sm_append, sm_cons, ih]
theorem sm_getD {α : Type} {l : List α} (d : α) (f : α → Int) : sm l f = sm (List.range l.length) fun i => f (l.getD i d) := by
  have : l = (List.range l.length).map fun i => l.getD i d := by
    refine List.ext_getElem? fun i => ?_
    by_cases h : i < l.length
    · rw [List.getElem?_map, List.getElem?_range h, List.getElem?_eq_getElem h]
      show _ = some (l.getD i d)
      rw [List.getD_eq_getElem?_getD, List.getElem?_eq_getElem h]
      rfl
    · rw [List.getElem?_eq_none (by omega), List.getElem?_eq_none (by rw [List.length_map, List.length_range]; omega)]
  conv => lhs; rw [this]
  exact sm_map _ _ _
theorem sm_mem {α : Type} {l : List α} {f : α → Int} (h : ∀ a ∈ l, 0 ≤ f a) {a : α} (ha : a ∈ l) : f a ≤ sm l f := by
  induction l with
  | nil => cases ha
  | cons b l ih =>
    rw [sm_cons]
    rcases List.mem_cons.mp ha with rfl | ha
    · have := sm_nn fun c hc => h c (List.mem_cons_of_mem _ hc)
      omega
    · have := ih (fun c hc => h c (List.mem_cons_of_mem _ hc)) ha
      have := h b List.mem_cons_self
      omega
theorem zip_split {α β : Type} (f : α → Int) (k : β → Int) : ∀ (B : List α) (res : List β), B.length ≤ res.length → (sm (List.zip B res) fun p => f p.1) = sm B f ∧ (sm (List.zip B res) fun p => k p.2) + sm (res.drop B.length) k = sm res k
  | [], res, _ => ⟨rfl, by rw [List.zip_nil_left, sm_nil, List.length_nil, List.drop_zero, Int.zero_add]⟩
  | a :: B, [], h => by simp at h
  | a :: B, b :: res, h => by
    obtain ⟨h1, h2⟩ := zip_split f k B res (by simpa using h)
    rw [List.zip_cons_cons, sm_cons, sm_cons, sm_cons, sm_cons, h1, List.length_cons, List.drop_succ_cons, ← h2]
    exact ⟨rfl, by show k b + _ + _ = _; omega⟩
theorem zip_at {α β : Type} {B : List α} {res : List β} {p : α × β} (h : p ∈ List.zip B res) : ∃ i : Nat, B[i]? = some p.1 ∧ res[i]? = some p.2 := by
  obtain ⟨i, hi⟩ := List.mem_iff_getElem?.mp h
  exact ⟨i, List.getElem?_zip_eq_some.mp hi⟩
theorem sumOf_eq (es : List Ent) (n : Nat) : sumOf es n = sm es fun e => if e.1 = n then e.2.2 else 0 := by
  unfold sumOf
  rw [sm_filter]
  simp only [decide_eq_true_eq]
theorem ents_mem {D : List (List Rwx)} {e : Ent} (h : e ∈ entsAll D) : ∃ (i : Nat) (rows : List Rwx) (r : Rwx), D[i]? = some rows ∧ r ∈ rows ∧ e = (i, r.1, r.2) := by
  unfold entsAll entsTo at h
  obtain ⟨i, hi, he⟩ := List.mem_flatMap.mp h
  have hi := List.mem_range.mp hi
  unfold entsAt at he
  obtain ⟨r, hr, rfl⟩ := List.mem_map.mp he
  refine ⟨i, D.getD i [], r, ?_, hr, rfl⟩
  rw [List.getD_eq_getElem?_getD, List.getElem?_eq_getElem hi]
  rfl
theorem sm_ents (D : List (List Rwx)) (f : Ent → Int) : sm (entsAll D) f = sm (List.range D.length) fun i => sm (D.getD i []) fun r => f (i, r.1, r.2) := by
  unfold entsAll entsTo
  rw [sm_flat]
  refine sm_congr fun i _ => ?_
  unfold entsAt
  rw [sm_map]
theorem tagged_parts : ∀ (B : List Ent) (res : List (List Rwx)), tagged B (partsOf B res) = (List.zip B res).flatMap fun p => p.2.map fun r => (p.1.1, srtN (p.1.2.1 ++ r.1), r.2)
  | [], res => by unfold tagged; rfl
  | e :: B, [] => by unfold tagged partsOf; rfl
  | e :: B, rows :: res => by
    have ih := tagged_parts B res
    unfold tagged partsOf at ih ⊢
    rw [List.zip_cons_cons, List.map_cons, List.zipWith_cons_cons, List.flatten_cons, ih, List.flatMap_cons, List.map_map]
    rfl
section
variable {h : Nat} {rs : List Road} {ms : List Msg} {B : List Ent}
theorem for_row {K some f row : List Nat} {k t : Nat} (n : NetOk h rs) (hK : LotOk h K) (hr : RowOk rs some) (hl : LedOk rs K some) (hk : ∀ v, k.testBit v = decide (v ∈ K ++ ends rs some)) (ht : ∀ v, t.testBit v = decide (v ∈ heardL rs K)) (G : GF h rs k t f) (hp : row.Perm (some ++ f)) (hs : row.Pairwise (· < ·)) : ForOk rs K row := by
  have he : (ends rs row).Perm (ends rs some ++ ends rs f) := by
    have := ends_perm (rs := rs) hp
    unfold ends at this ⊢
    rw [List.map_append] at this
    exact this
  have hout : ∀ v ∈ ends rs f, v ∉ K ∧ v ∉ ends rs some := fun v hv => by
    have := (G.out v hv).1
    rw [hk, decide_eq_false_iff_not, List.mem_append] at this
    exact ⟨fun z => this (.inl z), fun z => this (.inr z)⟩
  have sub1 : ∀ e ∈ eds rs some, e ∈ eds rs row := fun e he => by
    obtain ⟨a, ha, rfl⟩ := List.mem_map.mp he
    exact List.mem_map.mpr ⟨a, hp.mem_iff.mpr (List.mem_append_left _ ha), rfl⟩
  refine ⟨⟨hs, fun a ha => ?_⟩, ⟨?_, fun v hv => ?_, fun v hv => ?_⟩, fun v hv => ?_⟩
  · rcases List.mem_append.mp (hp.mem_iff.mp ha) with z | z
    · exact hr.2 a z
    · exact G.mem a z
  · refine he.nodup_iff.mpr (List.nodup_append.mpr ⟨hl.1, G.nd, fun a ha b hb z => ?_⟩)
    rw [z] at ha
    exact (hout b hb).2 ha
  · rcases List.mem_append.mp (he.mem_iff.mp hv) with z | z
    · exact hl.2.1 v z
    · exact (hout v z).1
  · rcases List.mem_append.mp (he.mem_iff.mp hv) with z | z
    · exact (hl.2.2 v z).mono sub1
    · refine G.reach _ _ (fun w hw => ?_) (fun a ha => List.mem_map.mpr ⟨a, hp.mem_iff.mpr (List.mem_append_right _ ha), rfl⟩) v z
      rw [hk, decide_eq_true_eq] at hw
      rcases List.mem_append.mp hw with q | q
      · exact .base q
      · exact (hl.2.2 w q).mono sub1
  · rcases G.all v (by rw [ht, decide_eq_true_eq]; exact hv) with z | z
    · rw [hk, decide_eq_true_eq] at z
      rcases List.mem_append.mp z with z | z
      · exact .inl z
      · exact .inr (he.mem_iff.mpr (List.mem_append_left _ z))
    · exact .inr (he.mem_iff.mpr (List.mem_append_right _ z))
theorem row_nd {K some f : List Nat} {k t : Nat} (hl : LedOk rs K some) (hk : ∀ v, k.testBit v = decide (v ∈ K ++ ends rs some)) (G : GF h rs k t f) : (some ++ f).Nodup := by
  have : (ends rs (some ++ f)).Nodup := by
    unfold ends
    rw [List.map_append]
    refine List.nodup_append.mpr ⟨hl.1, G.nd, fun a ha b hb z => ?_⟩
    have q := (G.out b hb).1
    rw [hk, decide_eq_false_iff_not, List.mem_append] at q
    rw [z] at ha
    exact q (.inr ha)
  unfold ends at this
  exact nodup_of_map this
theorem led_nil (rs : List Road) (K : List Nat) : RowOk rs [] ∧ LedOk rs K [] := ⟨⟨List.Pairwise.nil, fun a ha => (by cases ha)⟩, List.nodup_nil, fun v hv => (by cases hv), fun v hv => (by cases hv)⟩
theorem fin_ex (ok : NewsOk h rs ms) (bo : BegOk rs ms B) (hL : lackM h rs ms B = []) : ∃ res, Out h 0 (restB rs B) (streamsLeft rs ms B) res ∧ (∀ rows ∈ res, rows.length ≤ 400) ∧ (∀ rows ∈ res, ∀ r ∈ rows, r.1.length ≤ 1000) ∧ FinOk rs ms B (partsOf B res) (entsAll (res.drop B.length)) ∧ ((partsOf B res).map List.length).sum + (entsAll (res.drop B.length)).length ≤ 400 := by
  have hh := ok.net.h6
  have sub := rest_sub ok bo
  have gd := good_left ok bo hL
  obtain ⟨res, O1, O2, O3, O4⟩ := out_ex (streamsLeft rs ms B).length 0 _ _ (by omega) gd
  have hsl : (streamsLeft rs ms B).length = B.length + ms.length := by
    unfold streamsLeft
    rw [List.length_append, List.length_map, List.length_map, List.length_range]
  have hrl : res.length = B.length + ms.length := by
    have := O1.len
    rw [hsl] at this
    simpa using this
  have hBl := bo.few
  have hml := ok.few
  have hrn := ok.net.many
  have hphi : (sm res fun rows => (rows.length : Int)) ≤ 341 := by
    have := phi_le (rs := restB rs B) (ss := streamsLeft rs ms B) hh
    rw [restB_len, hsl] at this
    omega
  have hlen : ∀ rows ∈ res, rows.length ≤ 341 := fun rows hr => by
    have : (rows.length : Int) ≤ _ := sm_mem (f := fun rows : List Rwx => (rows.length : Int)) (fun a _ => Int.natCast_nonneg _) hr
    omega
  have hB : ∀ (i : Nat) e rows, B[i]? = some e → res[i]? = some rows → (∀ r ∈ rows, RowG h rs (maskOf (md ms e.1).1 ||| maskOf (ends rs e.2.1)) (maskOf (heardL rs (md ms e.1).1)) r) ∧ (sm rows fun r => r.2) = e.2.2 := fun i e rows h1 h2 => by
    have hi := (List.getElem?_eq_some_iff.mp h1).1
    obtain ⟨o1, o2⟩ := O2 i (maskOf (md ms e.1).1 ||| maskOf (ends rs e.2.1), maskOf (heardL rs (md ms e.1).1), e.2.2) rows (by
      rw [Nat.zero_add]
      unfold streamsLeft
      rw [List.getElem?_append_left (by rw [List.length_map]; exact hi), List.getElem?_map, h1]
      rfl) h2
    exact ⟨fun r hr => by
      obtain ⟨q1, f, q2, q3, q4⟩ := o1 r hr
      exact ⟨q1, f, q2, sub.gf q3, q4⟩, o2⟩
  have hM : ∀ (n : Nat) rows, n < ms.length → (res.drop B.length)[n]? = some rows → (∀ r ∈ rows, RowG h rs (maskOf (md ms n).1) (maskOf (heardL rs (md ms n).1)) r) ∧ (sm rows fun r => r.2) = (md ms n).2 - sumOf B n := fun n rows hn h2 => by
    rw [List.getElem?_drop] at h2
    obtain ⟨o1, o2⟩ := O2 (B.length + n) (maskOf (md ms n).1, maskOf (heardL rs (md ms n).1), (md ms n).2 - sumOf B n) rows (by
      rw [Nat.zero_add]
      unfold streamsLeft
      rw [List.getElem?_append_right (by rw [List.length_map]; omega), List.length_map, Nat.add_sub_cancel_left, List.getElem?_map, List.getElem?_range hn]
      rfl) h2
    exact ⟨fun r hr => by
      obtain ⟨q1, f, q2, q3, q4⟩ := o1 r hr
      exact ⟨q1, f, q2, sub.gf q3, q4⟩, o2⟩
  have hdl : (res.drop B.length).length = ms.length := by rw [List.length_drop, hrl]; omega
  -- what is new
  have newOk : ∀ e ∈ entsAll (res.drop B.length), EntOk ms e ∧ ForOk rs (md ms e.1).1 e.2.1 := fun e he => by
    obtain ⟨i, rows, r, h1, h2, rfl⟩ := ents_mem he
    have hi : i < ms.length := by rw [← hdl]; exact (List.getElem?_eq_some_iff.mp h1).1
    obtain ⟨q1, f, q2, q3, q4⟩ := (hM i rows hi h1).1 r h2
    refine ⟨⟨hi, q1⟩, ?_⟩
    obtain ⟨n1, n2⟩ := led_nil rs (md ms i).1
    have hk : ∀ v, (maskOf (md ms i).1).testBit v = decide (v ∈ (md ms i).1 ++ ends rs []) := fun v => by
      rw [ok.k hi]
      have : ends rs [] = [] := rfl
      rw [this, List.append_nil]
    show ForOk rs (md ms i).1 r.1
    rw [q2]
    exact for_row ok.net (ok.lot hi) n1 n2 hk (ok.hd hi) q3 (srtN_perm f) (srtN_lt (by have := row_nd n2 hk q3; rwa [List.nil_append] at this))
  have kb : ∀ e ∈ B, ∀ v, (maskOf (md ms e.1).1 ||| maskOf (ends rs e.2.1)).testBit v = decide (v ∈ (md ms e.1).1 ++ ends rs e.2.1) := fun e he v => kb_tb ok (bo.ent e he).1.1 (bo.ent e he).2.1 (bo.ent e he).2.2 v
  have tagOk : ∀ e ∈ tagged B (partsOf B res), EntOk ms e ∧ ForOk rs (md ms e.1).1 e.2.1 := fun e' he' => by
    rw [tagged_parts] at he'
    obtain ⟨p, hp, he'⟩ := List.mem_flatMap.mp he'
    obtain ⟨r, hr, rfl⟩ := List.mem_map.mp he'
    obtain ⟨i, h1, h2⟩ := zip_at hp
    have hpB := List.mem_of_getElem? h1
    obtain ⟨⟨b1, b2⟩, b3, b4⟩ := bo.ent _ hpB
    obtain ⟨q1, f, q2, q3, q4⟩ := (hB i _ _ h1 h2).1 r hr
    refine ⟨⟨b1, q1⟩, ?_⟩
    have pm : (srtN (p.1.2.1 ++ r.1)).Perm (p.1.2.1 ++ f) := (srtN_perm _).trans (by rw [q2]; exact (srtN_perm f).append_left _)
    refine for_row ok.net (ok.lot b1) b3 b4 (kb _ hpB) (ok.hd b1) q3 pm ?_
    refine srtN_lt ?_
    have := row_nd b4 (kb _ hpB) q3
    exact ((srtN_perm _).symm.trans pm).nodup_iff.mpr this
  have hBr : B.length ≤ res.length := by omega
  refine ⟨res, O1, fun rows hr => by have := hlen rows hr; omega, fun rows hr r hr2 => ?_, ⟨?_, fun i e rows h1 h2 => ?_, ⟨fun e he => ?_, fun a ha => ?_, fun n hn => ?_⟩⟩, ?_⟩
  · obtain ⟨i, hi⟩ := List.mem_iff_getElem?.mp hr
    have hil := (List.getElem?_eq_some_iff.mp hi).1
    have : ∃ f, r.1 = srtN f ∧ f.length ≤ 5 := by
      by_cases hb : i < B.length
      · obtain ⟨_, f, q2, _, q4⟩ := (hB i _ _ (List.getElem?_eq_getElem hb) hi).1 r hr2
        exact ⟨f, q2, q4⟩
      · obtain ⟨_, f, q2, _, q4⟩ := (hM (i - B.length) rows (by omega) (by rw [List.getElem?_drop, ← hi]; congr 1; omega)).1 r hr2
        exact ⟨f, q2, q4⟩
    obtain ⟨f, q2, q4⟩ := this
    rw [q2, (srtN_perm f).length_eq]
    omega
  · unfold partsOf
    rw [List.length_map, List.length_zip]
    omega
  · unfold partsOf at h2
    rw [List.getElem?_map] at h2
    cases hz : (List.zip B res)[i]? with
    | none => rw [hz] at h2; cases h2
    | some p =>
      rw [hz] at h2
      cases h2
      obtain ⟨z1, z2⟩ := List.getElem?_zip_eq_some.mp hz
      rw [h1] at z1
      cases z1
      obtain ⟨w1, w2⟩ := hB i _ _ h1 z2
      refine ⟨fun r hr => ?_, ?_⟩
      · obtain ⟨r0, hr0, rfl⟩ := List.mem_map.mp hr
        exact ⟨(w1 r0 hr0).1, fun a ha => (srtN_perm _).mem_iff.mpr (List.mem_append_left _ ha)⟩
      · rw [List.map_map]
        exact w2
  · rcases List.mem_append.mp he with z | z
    · exact newOk e z
    · exact tagOk e z
  · rw [use_ents, sm_append]
    have e1 : (sm (entsAll (res.drop B.length)) fun e => if a ∈ e.2.1 then e.2.2 else 0) = sm (res.drop B.length) fun rows => useOf rows a := by
      rw [sm_ents, sm_getD []]
      exact sm_congr fun i _ => (useOf_eq _ _).symm
    have e2 : (sm (tagged B (partsOf B res)) fun e => if a ∈ e.2.1 then e.2.2 else 0) ≤ sm (List.zip B res) fun p => (if a ∈ p.1.2.1 then p.1.2.2 else 0) + useOf p.2 a := by
      rw [tagged_parts, sm_flat]
      refine sm_le fun p hp => ?_
      obtain ⟨i, h1, h2⟩ := zip_at hp
      obtain ⟨w1, w2⟩ := hB i _ _ h1 h2
      rw [sm_map]
      have : (sm p.2 fun r => if a ∈ srtN (p.1.2.1 ++ r.1) then r.2 else 0) ≤ sm p.2 fun r => (if a ∈ p.1.2.1 then r.2 else 0) + (if a ∈ r.1 then r.2 else 0) := sm_le fun r hr => by
        have h1 := (w1 r hr).1
        by_cases z : a ∈ srtN (p.1.2.1 ++ r.1)
        · rw [if_pos z]
          rcases List.mem_append.mp ((srtN_perm _).mem_iff.mp z) with q | q
          · rw [if_pos q]
            split <;> omega
          · rw [if_pos q]
            split <;> omega
        · rw [if_neg z]
          split <;> split <;> omega
      refine Int.le_trans this ?_
      rw [sm_add, ← useOf_eq]
      have : (sm p.2 fun r => if a ∈ p.1.2.1 then r.2 else 0) = if a ∈ p.1.2.1 then p.1.2.2 else 0 := by
        split
        · exact w2
        · exact sm_zero fun _ _ => rfl
      rw [this]
      exact Int.le_refl _
    have e3 := sm_add (List.zip B res) (fun p => if a ∈ p.1.2.1 then p.1.2.2 else 0) fun p => useOf p.2 a
    obtain ⟨z1, z2⟩ := zip_split (fun e : Ent => if a ∈ e.2.1 then e.2.2 else 0) (fun rows => useOf rows a) B res hBr
    have o3 := O3 a (by rw [restB_len]; exact ha)
    rw [rest_rd ha] at o3
    have o3 : (sm res fun rows => useOf rows a) ≤ (rd rs a).2.2 - sm B fun e => if a ∈ e.2.1 then e.2.2 else 0 := o3
    omega
  · rw [sumOf_eq, sm_append]
    have e1 : (sm (entsAll (res.drop B.length)) fun e => if e.1 = n then e.2.2 else 0) = (md ms n).2 - sumOf B n := by
      rw [sm_ents, hdl]
      have : (sm (List.range ms.length) fun i => sm ((res.drop B.length).getD i []) fun r => if i = n then r.2 else 0) = sm (List.range ms.length) fun i => if i ∈ [n] then sm ((res.drop B.length).getD i []) (fun r => r.2) else 0 := sm_congr fun i _ => by
        by_cases z : i = n
        · rw [if_pos (List.mem_singleton.mpr z)]
          exact sm_congr fun r _ => if_pos z
        · rw [if_neg fun q => z (List.mem_singleton.mp q)]
          exact sm_zero fun r _ => if_neg z
      refine Eq.trans this ?_
      rw [sm_in (by simp) (fun a ha => by rw [List.mem_singleton.mp ha]; exact hn), sm_cons, sm_nil, Int.add_zero]
      refine (hM n _ hn ?_).2
      rw [List.getD_eq_getElem?_getD, List.getElem?_eq_getElem (by rw [hdl]; exact hn)]
      rfl
    have e2 : (sm (tagged B (partsOf B res)) fun e => if e.1 = n then e.2.2 else 0) = sumOf B n := by
      rw [tagged_parts, sm_flat, sumOf_eq, ← (zip_split (fun e : Ent => if e.1 = n then e.2.2 else 0) (fun _ => 0) B res hBr).1]
      refine sm_congr fun p hp => ?_
      obtain ⟨i, h1, h2⟩ := zip_at hp
      obtain ⟨w1, w2⟩ := hB i _ _ h1 h2
      rw [sm_map]
      show (sm p.2 fun r => if p.1.1 = n then r.2 else 0) = _
      split
      · exact w2
      · exact sm_zero fun _ _ => rfl
    omega
  · have e1 : ((((partsOf B res).map List.length).sum : Nat) : Int) = sm (List.zip B res) fun p => (p.2.length : Int) := by
      unfold partsOf
      rw [List.map_map]
      generalize List.zip B res = Z
      induction Z with
      | nil => rfl
      | cons p Z ih =>
        rw [List.map_cons, List.sum_cons, sm_cons, Int.natCast_add, ih]
        show (((p.2.map _).length : Nat) : Int) + _ = _
        rw [List.length_map]
    have e2 : ((entsAll (res.drop B.length)).length : Int) = sm (res.drop B.length) fun rows => (rows.length : Int) := by
      have : ∀ {α : Type} (l : List α), (l.length : Int) = sm l fun _ => 1 := fun l => by
        induction l with
        | nil => rfl
        | cons a l ih => rw [sm_cons, List.length_cons, Int.natCast_add, ih]; show _ + 1 = _; omega
      rw [this, sm_ents, sm_getD []]
      exact sm_congr fun i _ => (this _).symm
    have z := (zip_split (fun _ : Ent => 0) (fun rows : List Rwx => (rows.length : Int)) B res hBr).2
    omega
/-! ### cuts -/
theorem reach_cross {E : List (Nat × Nat)} {K : List Nat} {P : Nat → Prop} (h0 : ∀ u ∈ K, ¬P u) {v : Nat} (r : Reach E K v) (hv : P v) : ∃ u w, (u, w) ∈ E ∧ ¬P u ∧ P w := by
  induction r with
  | base q => exact absurd hv (h0 _ q)
  | @step u w q _ ih =>
    by_cases z : P u
    · exact ih z
    · exact ⟨u, w, q, z, hv⟩
theorem cross_row {K row sub : List Nat} {k t m : Nat} (fo : ForOk rs K row) (hs : sub.Nodup) (hsub : ∀ a ∈ sub, a ∈ row) (hk : ∀ v, k.testBit v = decide (v ∈ K ++ ends rs sub)) (ht : ∀ v, t.testBit v = decide (v ∈ heardL rs K)) : cnt rs sub m + nd (k, t, 1) m ≤ cnt rs row m := by
  have hrl : ∀ a ∈ row, a < rs.length := fun a ha => (fo.1.2 a ha).1
  unfold cnt
  rw [← sm_in (n := rs.length) hs fun a ha => hrl a (hsub a ha), ← sm_in (n := rs.length) fo.1.nd hrl]
  have hle : ∀ a ∈ List.range rs.length, (if a ∈ sub then b2 (ent (rd rs a) m) else 0) ≤ if a ∈ row then b2 (ent (rd rs a) m) else 0 := fun a _ => by
    have := b2_nn (ent (rd rs a) m)
    by_cases z : a ∈ sub
    · rw [if_pos z, if_pos (hsub a z)]
      exact Int.le_refl _
    · rw [if_neg z]
      split <;> omega
  by_cases hn : 0 < nd (k, t, 1) m
  · obtain ⟨n1, v, n2, n3⟩ := nd_and hn
    have hnk : ∀ u, m.testBit u = true → u ∉ K ++ ends rs sub := fun u hu z => n1 ⟨u, hu, by show k.testBit u = true; rw [hk]; exact decide_eq_true z⟩
    have n3 : t.testBit v = true := n3
    rw [ht, decide_eq_true_eq] at n3
    have hvK : v ∉ K := fun z => hnk v n2 (List.mem_append_left _ z)
    have hve : v ∈ ends rs row := (fo.2.2 v n3).resolve_left hvK
    obtain ⟨u, w, e1, e2, e3⟩ := reach_cross (P := fun u => m.testBit u = true) (fun u hu z => hnk u z (List.mem_append_left _ hu)) (fo.2.1.2.2 v hve) n2
    obtain ⟨a, ha, e⟩ := List.mem_map.mp e1
    cases e
    have hent : ent (rd rs a) m = true := by
      unfold ent
      have e2 : ¬m.testBit (rd rs a).1 = true := e2
      have e3 : m.testBit (rd rs a).2.1 = true := e3
      rw [e3, Bool.not_eq_true] at *
      rw [e2]
      rfl
    have hns : a ∉ sub := fun z => hnk _ e3 (List.mem_append_right _ (List.mem_map.mpr ⟨a, z, rfl⟩))
    have h1 := sm_lt_of hle (List.mem_range.mpr (hrl a ha)) (by
      rw [if_neg hns, if_pos ha, hent]
      decide)
    have h2 : nd (k, t, 1) m ≤ 1 := nd_le (s := (k, t, 1)) (by show (0 : Int) ≤ 1; decide) m
    omega
  · have := sm_le hle
    have h2 : 0 ≤ nd (k, t, 1) m := nd_nn (s := (k, t, 1)) (by show (0 : Int) ≤ 1; decide) m
    omega
theorem cut_row {K row s : List Nat} (hr : RowOk rs row) (hl : LedOk rs K row) (b : Built rs K row s) : RowOk rs (srtN s) ∧ LedOk rs K (srtN s) := by
  obtain ⟨b1, b2, b3⟩ := b
  have nd : (ends rs s).Nodup := by
    unfold ends
    refine List.pairwise_map.mpr ?_
    refine List.Pairwise.imp_of_mem ?_ b1
    intro x y hx hy hne e
    exact hne (ends_nodup_inj hl.1 (b2 x hx) (b2 y hy) e)
  have out : ∀ v ∈ ends rs s, v ∉ K := fun v hv => by
    obtain ⟨a, ha, rfl⟩ := List.mem_map.mp hv
    exact hl.2.1 _ (List.mem_map.mpr ⟨a, b2 a ha, rfl⟩)
  refine ⟨srt_row b1 fun a ha => hr.2 a (b2 a ha), LedOk.perm (srtN_perm s).symm (Built.led ⟨b1, b2, b3⟩ nd out)⟩
theorem cut_ent {es : List Ent} (c : CutAll rs ms B es) (he : ∀ e ∈ es, EntOk ms e ∧ RowOk rs e.2.1 ∧ LedOk rs (md ms e.1).1 e.2.1) : ∀ e ∈ B, EntOk ms e ∧ RowOk rs e.2.1 ∧ LedOk rs (md ms e.1).1 e.2.1 := by
  induction c with
  | nil => exact he
  | skip _ ih => exact ih fun e h => he e (List.mem_append_left _ h)
  | take _ q ih =>
    intro e' h'
    rcases List.mem_append.mp h' with z | z
    · exact ih (fun e h => he e (List.mem_append_left _ h)) e' z
    · rw [List.mem_singleton.mp z]
      obtain ⟨q1, q2, q3, s, q4, q5⟩ := q
      obtain ⟨⟨w1, w2⟩, w3, w4⟩ := he _ (List.mem_append_right _ List.mem_cons_self)
      obtain ⟨r1, r2⟩ := cut_row w3 w4 q5
      rw [q4, q1]
      exact ⟨⟨by rw [q1]; exact w1, q2⟩, r1, r2⟩
theorem cut_sm {es : List Ent} (c : CutAll rs ms B es) (F G : Ent → Int) (h1 : ∀ e ∈ es, 0 ≤ G e) (h2 : ∀ e' e, e ∈ es → Cut rs ms e' e → F e' ≤ G e) : sm B F ≤ sm es G := by
  induction c with
  | nil => exact Int.le_refl _
  | skip _ ih =>
    rw [sm_append, sm_cons, sm_nil]
    have := ih (fun e h => h1 e (List.mem_append_left _ h)) fun e' e h => h2 e' e (List.mem_append_left _ h)
    have := h1 _ (List.mem_append_right _ List.mem_cons_self)
    omega
  | take _ q ih =>
    rw [sm_append, sm_append, sm_cons, sm_nil, sm_cons, sm_nil]
    have := ih (fun e h => h1 e (List.mem_append_left _ h)) fun e' e h => h2 e' e (List.mem_append_left _ h)
    have := h2 _ _ (List.mem_append_right _ List.mem_cons_self) q
    omega
theorem cut_ok {es : List Ent} (ok : NewsOk h rs ms) (po : PlanOk rs ms es) (c : CutAll rs ms B es) (few : B.length ≤ 6) : BegOk rs ms B ∧ lackM h rs ms B = [] := by
  have hh := ok.net.h6
  have be := cut_ent c fun e he => ⟨(po.ent e he).1, (po.ent e he).2.1, (po.ent e he).2.2.1⟩
  have bo : BegOk rs ms B := by
    refine ⟨few, be, fun a ha => ?_, fun n hn => ?_⟩
    · have h1 := po.bear a ha
      rw [use_ents] at h1 ⊢
      refine Int.le_trans (cut_sm c _ _ (fun e he => ?_) fun e' e he q => ?_) h1
      · have := (po.ent e he).1.2
        show 0 ≤ if a ∈ e.2.1 then e.2.2 else 0
        split <;> omega
      · obtain ⟨q1, q2, q3, s, q4, q5⟩ := q
        have := (po.ent e he).1.2
        show (if a ∈ e'.2.1 then e'.2.2 else 0) ≤ if a ∈ e.2.1 then e.2.2 else 0
        rw [q4]
        by_cases z : a ∈ srtN s
        · rw [if_pos z, if_pos (q5.2.1 a ((srtN_perm s).mem_iff.mp z))]
          exact q3
        · rw [if_neg z]
          split <;> omega
    · have h1 := po.sums n hn
      rw [sumOf_eq] at h1 ⊢
      rw [← h1]
      refine cut_sm c _ _ (fun e he => ?_) fun e' e he q => ?_
      · have := (po.ent e he).1.2
        show 0 ≤ if e.1 = n then e.2.2 else 0
        split <;> omega
      · obtain ⟨q1, q2, q3, _⟩ := q
        show (if e'.1 = n then e'.2.2 else 0) ≤ if e.1 = n then e.2.2 else 0
        rw [q1]
        split <;> omega
  refine ⟨bo, ?_⟩
  have main : ∀ m, m < 2 ^ h → 0 ≤ spareM (restB rs B) (streamsLeft rs ms B) m := fun m hm => by
    rw [spareM_eq, rest_flow _ B fun e he => ⟨(bo.ent e he).2.1.nd, fun a ha => ((bo.ent e he).2.1.2 a ha).1⟩]
    unfold streamsLeft
    rw [sm_append, sm_map, sm_map]
    -- what enters bears the plan
    have f1 : (sm es fun e => e.2.2 * cnt rs e.2.1 m) ≤ inflowM rs m := by
      have e1 : (sm es fun e => e.2.2 * cnt rs e.2.1 m) = sm es fun e => sm (List.range rs.length) fun a => if a ∈ e.2.1 then e.2.2 * b2 (ent (rd rs a) m) else 0 := sm_congr fun e he => by
        unfold cnt
        rw [← sm_mul, sm_in (po.ent e he).2.1.nd fun a ha => ((po.ent e he).2.1.2 a ha).1]
      rw [e1, sm_swap, inflowM_eq, sm_rd]
      refine sm_le fun a ha => ?_
      have h1 := po.bear a (List.mem_range.mp ha)
      rw [use_ents] at h1
      unfold fl
      cases q : ent (rd rs a) m with
      | true =>
        rw [if_pos rfl]
        refine Int.le_trans (sm_le fun e _ => ?_) h1
        show (if a ∈ e.2.1 then e.2.2 * 1 else 0) ≤ if a ∈ e.2.1 then e.2.2 else 0
        rw [Int.mul_one]
        exact Int.le_refl _
      | false =>
        rw [if_neg (by decide), sm_zero fun e _ => ?_]
        · exact Int.le_refl _
        · show (if a ∈ e.2.1 then e.2.2 * 0 else 0) = 0
          rw [Int.mul_zero]
          split <;> rfl
    -- what is needed of the messages
    have u : ∀ (l : List Ent), (∀ e ∈ l, e.1 < ms.length) → (sm (List.range ms.length) fun n => sumOf l n * nd (maskOf (md ms n).1, maskOf (heardL rs (md ms n).1), 1) m) = sm l fun e => e.2.2 * nd (maskOf (md ms e.1).1, maskOf (heardL rs (md ms e.1).1), 1) m := fun l hl => by
      have : (sm (List.range ms.length) fun n => sumOf l n * nd (maskOf (md ms n).1, maskOf (heardL rs (md ms n).1), 1) m) = sm (List.range ms.length) fun n => sm l fun e => if n ∈ [e.1] then e.2.2 * nd (maskOf (md ms n).1, maskOf (heardL rs (md ms n).1), 1) m else 0 := sm_congr fun n _ => by
        rw [sumOf_eq, Int.mul_comm, ← sm_mul]
        refine sm_congr fun e _ => ?_
        by_cases z : e.1 = n
        · rw [if_pos z, if_pos (List.mem_singleton.mpr z.symm), Int.mul_comm]
        · rw [if_neg z, if_neg fun q => z (List.mem_singleton.mp q).symm, Int.mul_zero]
      rw [this, sm_swap]
      refine sm_congr fun e he => ?_
      rw [sm_in (by simp) fun a ha => by rw [List.mem_singleton.mp ha]; exact hl e he, sm_cons, sm_nil, Int.add_zero]
    have f2 : (sm (List.range ms.length) fun n => nd (maskOf (md ms n).1, maskOf (heardL rs (md ms n).1), (md ms n).2 - sumOf B n) m) = (sm es fun e => e.2.2 * nd (maskOf (md ms e.1).1, maskOf (heardL rs (md ms e.1).1), 1) m) - sm B fun e => e.2.2 * nd (maskOf (md ms e.1).1, maskOf (heardL rs (md ms e.1).1), 1) m := by
      rw [← u es fun e he => (po.ent e he).1.1, ← u B fun e he => (be e he).1.1, ← sm_sub]
      refine sm_congr fun n hn => ?_
      rw [nd_unit, po.sums n (List.mem_range.mp hn), Int.sub_mul]
    have f3 : (sm B fun e => nd (maskOf (md ms e.1).1 ||| maskOf (ends rs e.2.1), maskOf (heardL rs (md ms e.1).1), e.2.2) m) = sm B fun e => e.2.2 * nd (maskOf (md ms e.1).1 ||| maskOf (ends rs e.2.1), maskOf (heardL rs (md ms e.1).1), 1) m := sm_congr fun e _ => nd_unit _ _ _ _
    have f4 := cut_sm c (fun e => e.2.2 * cnt rs e.2.1 m + e.2.2 * nd (maskOf (md ms e.1).1 ||| maskOf (ends rs e.2.1), maskOf (heardL rs (md ms e.1).1), 1) m - e.2.2 * nd (maskOf (md ms e.1).1, maskOf (heardL rs (md ms e.1).1), 1) m) (fun e => e.2.2 * cnt rs e.2.1 m - e.2.2 * nd (maskOf (md ms e.1).1, maskOf (heardL rs (md ms e.1).1), 1) m) (fun e he => ?_) fun e' e he q => ?_
    · rw [sm_sub, sm_add, sm_sub] at f4
      rw [f2, f3]
      omega
    · obtain ⟨⟨p1, p2⟩, p3⟩ := po.ent e he
      have hk : ∀ v, (maskOf (md ms e.1).1).testBit v = decide (v ∈ (md ms e.1).1 ++ ends rs []) := fun v => by
        rw [ok.k p1]
        have : ends rs [] = [] := rfl
        rw [this, List.append_nil]
      have := cross_row (m := m) p3 List.nodup_nil (fun a ha => by cases ha) hk (ok.hd p1)
      have h0 : cnt rs [] m = 0 := rfl
      show 0 ≤ e.2.2 * cnt rs e.2.1 m - e.2.2 * nd (maskOf (md ms e.1).1, maskOf (heardL rs (md ms e.1).1), 1) m
      rw [← Int.mul_sub]
      exact Int.mul_nonneg (by omega) (by omega)
    · obtain ⟨⟨p1, p2⟩, p3⟩ := po.ent e he
      have hk : ∀ v, (maskOf (md ms e.1).1).testBit v = decide (v ∈ (md ms e.1).1 ++ ends rs []) := fun v => by
        rw [ok.k p1]
        have : ends rs [] = [] := rfl
        rw [this, List.append_nil]
      have c0 := cross_row (m := m) p3 List.nodup_nil (fun a ha => by cases ha) hk (ok.hd p1)
      have h0 : cnt rs [] m = 0 := rfl
      obtain ⟨q1, q2, q3, s, q4, q5⟩ := q
      obtain ⟨r1, r2⟩ := cut_row p3.1 p3.2.1 q5
      have c1 := cross_row (m := m) (sub := srtN s) p3 r1.nd (fun a ha => q5.2.1 a ((srtN_perm s).mem_iff.mp ha)) (fun v => kb_tb ok (e := (e.1, srtN s, 1)) p1 r1 r2 v) (ok.hd p1)
      show e'.2.2 * cnt rs e'.2.1 m + e'.2.2 * nd (maskOf (md ms e'.1).1 ||| maskOf (ends rs e'.2.1), maskOf (heardL rs (md ms e'.1).1), 1) m - e'.2.2 * nd (maskOf (md ms e'.1).1, maskOf (heardL rs (md ms e'.1).1), 1) m ≤ e.2.2 * cnt rs e.2.1 m - e.2.2 * nd (maskOf (md ms e.1).1, maskOf (heardL rs (md ms e.1).1), 1) m
      rw [q1, q4, ← Int.mul_add, ← Int.mul_sub, ← Int.mul_sub]
      have c1 : cnt rs (srtN s) m + nd (maskOf (md ms e.1).1 ||| maskOf (ends rs (srtN s)), maskOf (heardL rs (md ms e.1).1), 1) m ≤ cnt rs e.2.1 m := c1
      refine Int.le_trans (Int.mul_le_mul_of_nonneg_left (show _ ≤ cnt rs e.2.1 m - nd (maskOf (md ms e.1).1, maskOf (heardL rs (md ms e.1).1), 1) m by omega) (by omega)) ?_
      exact Int.mul_le_mul_of_nonneg_right q3 (by omega)
  unfold lackM
  refine List.filter_eq_nil_iff.mpr fun l hl => ?_
  have hl2 : LotOk h l := lotsL_ok h (by omega) l hl
  have hm := (hl2.lt2 hh).2
  rw [sparesM_get hm, decide_eq_true_eq]
  have := main _ hm
  omega
end
end TB
set_option Elab.async false
set_option linter.all false
set_option autoImplicit false
set_option maxRecDepth 100000
set_option maxHeartbeats 4000000
namespace TB
open PySem PySem.Spec PyProof.Rows L2
section
variable {h : Nat} {rs : List Road} {ms : List Msg} {B : List Ent}
theorem tell_ok {cut : Bool} (ok : NewsOk h rs ms) (bo : BegOk rs ms B) (hc : cut = true → lackM h rs ms B = []) : TellOk h rs ms B cut := ⟨lots_lackM ok bo, hc, fun hL => fin_ex ok bo hL⟩
theorem plan_ex (ok : NewsOk h rs ms) (hL : lacks h rs ms = []) : ∃ res, Out h 0 rs (streamsOf rs ms) res ∧ (∀ rows ∈ res, rows.length ≤ 1000) ∧ PlanOk rs ms (entsAll res) ∧ (entsAll res).length ≤ 400 := by
  obtain ⟨res, h1, h2, h3, h4, h5⟩ := fin_ex ok (beg_nil ok) (lack_nil ok hL)
  rw [streams_nil] at h1
  have e : entsAll (res.drop ([] : List Ent).length) ++ tagged [] (partsOf [] res) = entsAll res := by
    have : tagged [] (partsOf [] res) = [] := by unfold tagged; rfl
    rw [this, List.append_nil]
    rfl
  have h6 := h4.plan
  rw [e] at h6
  exact ⟨res, h1, fun rows hr => by have := h2 rows hr; omega, h6, by
    have : (entsAll (res.drop ([] : List Ent).length)).length = (entsAll res).length := rfl
    omega⟩
end
end TB
set_option Elab.async false
set_option linter.all false
set_option autoImplicit false
set_option maxRecDepth 100000
set_option maxHeartbeats 4000000
/-! the lists of a finish are written one after the other -/
namespace TB
open PySem PySem.Spec PyProof.Rows L2
theorem Gr.h0 {g : Gb} {lf : Option Addr} {F H F' H' : Hp} (r : Gr g lf F H F' H') {p : Addr} (hp : H' p = none) : H p = none := by
  cases q : H p with
  | none => rfl
  | some o =>
    have := r.hh p o (r.wl.T_ne hp) (r.wl.lf_ne hp) q
    rw [hp] at this
    cases this
theorem dq_all {F : Hp} : ∀ {vs : List V} {ds : List PyData}, vs.length = ds.length → (∀ (k : Nat) v d, vs[k]? = some v → ds[k]? = some d → Dq F v d) → DqAll F vs ds
  | [], [], _, _ => .nil
  | [], _ :: _, h, _ => by cases h
  | _ :: _, [], h, _ => by cases h
  | v :: vs, d :: ds, h, k => .cons (k 0 v d rfl rfl) (dq_all (by simpa using h) fun j v' d' h1 h2 => k (j + 1) v' d' (by simpa using h1) (by simpa using h2))
theorem sh_cur {parts : List (List Rwx)} {new : List Ent} (h1 : ∀ e ∈ new, Sh 2 1623 (entD e)) (h2 : ∀ rows ∈ parts, ∀ r ∈ rows, Sh 2 1082 (rwD r)) (h4 : (parts.map List.length).sum + new.length ≤ 400) (i k : Nat) : Sh 3 700000 (curD (finL parts new) i k) := by
  have hg : ((finL parts new).getD k []).length ≤ 400 ∧ ∀ d ∈ (finL parts new).getD k [], Sh 2 1623 d := by
    rw [List.getD_eq_getElem?_getD]
    cases hk : (finL parts new)[k]? with
    | none => exact ⟨Nat.zero_le _, fun d hd => (by cases hd)⟩
    | some ds =>
      have hm := List.mem_of_getElem? hk
      unfold finL at hm
      rcases List.mem_append.mp hm with z | z
      · obtain ⟨rows, hr, rfl⟩ := List.mem_map.mp z
        have : rows.length ≤ (parts.map List.length).sum := le_sumN (List.mem_map.mpr ⟨rows, hr, rfl⟩)
        refine ⟨by show (rows.map rwD).length ≤ 400; rw [List.length_map]; omega, fun d hd => ?_⟩
        obtain ⟨r, hr2, rfl⟩ := List.mem_map.mp hd
        exact (h2 rows hr r hr2).mono (Nat.le_refl _) (by decide)
      · rw [List.mem_singleton.mp z]
        refine ⟨by show (new.map entD).length ≤ 400; rw [List.length_map]; omega, fun d hd => ?_⟩
        obtain ⟨r, hr2, rfl⟩ := List.mem_map.mp hd
        exact h1 r hr2
  unfold curD
  refine (Sh.list (n := 2) (w := 1623) fun d hd => ?_).mono (Nat.le_refl _) ?_
  · rcases List.mem_append.mp hd with z | z
    · exact hg.2 d z
    · split at z
      · rw [List.mem_singleton.mp z]
        exact Sh.none.mono (by decide) (by decide)
      · cases z
  · rw [List.length_append]
    have : (if k < i then [PyData.none] else []).length ≤ 1 := by split <;> simp
    have := hg.1
    omega
/-- the lists as they stand: those before i have one more -/
def PkL (H Fz : Hp) (q : Addr) (all : List Addr) (L : List (List PyData)) (i : Nat) : Prop := H q = some (.lst (all.map V.ref)) ∧ ∀ (k : Nat) l ds, all[k]? = some l → L[k]? = some ds → ∃ xs, H l = some (.lst xs) ∧ DqAll Fz xs (ds ++ if k < i then [PyData.none] else [])
def PkI (g : Gb) (lf : Option Addr) (F0 H0 : Hp) (S : Addr → Bool) (Fz : Hp) (q : Addr) (all : List Addr) (L : List (List PyData)) (σ0 : St) (i : Nat) (σ : St) (H : Hp) : Prop :=
  ∃ F', Gr g lf F0 H0 F' H ∧ Same Fz F' ∧ σ.length = 20 ∧ (∀ j, j < 16 → σ[j]? = σ0[j]?) ∧ (∀ b, S b = true → F' b = none) ∧ PkL H Fz q all L i
section
variable {g : Gb} {lf : Option Addr} {F0 H0 F' H Fz : Hp} {S : Addr → Bool} {q : Addr} {all : List Addr} {L : List (List PyData)} {i : Nat}
theorem pk_prv (w0 : Wl g lf F0 H0) (hS : ∀ b, S b = true ↔ b = q ∨ b ∈ all) (hn : ∀ b, S b = true → H0 b = none) (hL : L.length = all.length) (hF : ∀ b, S b = true → F' b = none) (pl : PkL H Fz q all L i) : Prv g ⟨lf, F', H⟩ S := ⟨fun b hb => by
  refine ⟨?_, hF b hb, w0.T_ne (hn b hb), w0.lf_ne (hn b hb)⟩
  rcases (hS b).mp hb with rfl | z
  · exact ⟨_, pl.1⟩
  · obtain ⟨k, hk⟩ := List.mem_iff_getElem?.mp z
    have hkl := (List.getElem?_eq_some_iff.mp hk).1
    obtain ⟨xs, h, _⟩ := pl.2 k b _ hk (List.getElem?_eq_getElem (by omega))
    exact ⟨xs, h⟩⟩
theorem pk_snap (w0 : Wl g lf F0 H0) (gr : Gr g lf F0 H0 F' H) (sm : Same Fz F') (hS : ∀ b, S b = true ↔ b = q ∨ b ∈ all) (hn : ∀ b, S b = true → H0 b = none) (hL : L.length = all.length) (hF : ∀ b, S b = true → F' b = none) (pl : PkL H Fz q all L i) :
    Wl g lf (frzF S F' H) H ∧ Same F' (frzF S F' H) ∧ Dq (frzF S F' H) (.ref q) (.list ((List.range L.length).map (curD L i))) ∧ (∀ b, S b = true → frzF S F' H b = H b) ∧ ∀ F1 H1, Gr g lf (frzF S F' H) H F1 H1 → Gr g lf F' H (unfF S F1) H1 := by
  have pv := pk_prv w0 hS hn hL hF pl
  have E : Ew g ⟨lf, F', H⟩ [] F' H (List.replicate 0 none) := Ew.blank gr.wl [] rfl
  have hb : ∀ b, S b = true → frzF S F' H b = H b := fun b hb => by
    unfold frzF
    rw [if_pos hb]
  have s1 := pv.sub E
  refine ⟨pv.wl E, s1, .lst (xs := all.map V.ref) (by rw [hb _ ((hS q).mpr (.inl rfl))]; exact pl.1) (dq_all (by rw [List.length_map, List.length_map, List.length_range, hL]) fun k v d h1 h2 => ?_), hb, fun F1 H1 r => pv.back E r⟩
  rw [List.getElem?_map] at h1
  cases hk : all[k]? with
  | none => rw [hk] at h1; cases h1
  | some l =>
    rw [hk] at h1
    cases h1
    obtain ⟨hkl, rfl⟩ := range_get h2
    have hLk : L[k]? = some L[k] := List.getElem?_eq_getElem hkl
    obtain ⟨xs, e1, e2⟩ := pl.2 k l _ hk hLk
    unfold curD
    rw [List.getD_eq_getElem?_getD, hLk]
    exact .lst (by rw [hb _ ((hS l).mpr (.inr (List.mem_of_getElem? hk)))]; exact e1) ((e2.mono sm).mono s1)
theorem dq_str_of {F : Hp} {x : Str} {d : PyData} (h : Dq F (.str x) d) : d = .str x := by cases h; rfl
end
theorem pk_loop {g : Gb} {lf : Option Addr} {F0 H0 Fz H : Hp} {S : Addr → Bool} {q : Addr} {all : List Addr} {L : List (List PyData)} {σ0 : St} {D : Ends} {R tf : TS} {Kx : PySem.W.Frag} (w0 : Wl g lf F0 H0) (hS : ∀ b, S b = true ↔ b = q ∨ b ∈ all) (hn : ∀ b, S b = true → H0 b = none) (nd : all.Nodup) (hq : q ∉ all) (hL : L.length = all.length) (h1 : 1 ≤ L.length) (h7 : L.length ≤ 7)
    (hsh : ∀ i k, Sh 3 700000 (curD L i k)) (hstr : ∀ ds ∈ L, ∀ d ∈ ds, ∀ x, d ≠ PyData.str x) (hlen : ∀ ds ∈ L, ds.length ≤ 1000) (s15 : σ0[15]? = some (some (.ref q))) (hσ0 : σ0.length = 20) (p0 : PkI g lf F0 H0 S Fz q all L σ0 0 σ0 H) (k : ∀ σ' H', PkI g lf F0 H0 S Fz q all L σ0 L.length σ' H' → R D σ' H') :
    tSeq (tFor (iRng1 (tCons (tCB (rLenS g.K) (tCons (tVar 15) tNil)) tNil)) (gName 16)
      (tSeq (tAsg (tLc (iList g.K (tVar 15)) (gName 13) tYes (tCB (rRepr g.K) (tCons (tVar 13) tNil)) [13]) (gName 17))
        (tSeq (tDrop (tBM Kx "list" rAppend (tOp (rIxL g.K) (tVar 15) (tVar 16)) (tCons (tC V.non) tNil)))
          (tIfS (tTest (tOp (rNeD g.K) (tLc (iRng1 (tCons (tCB (rLenS g.K) (tCons (tVar 15) tNil)) tNil)) (gName 18) (tAnd (tTest (tOp rNe (tVar 18) (tVar 16))) (tTest (tOp rNe (tCB (rRepr g.K) (tCons (tOp (rIxL g.K) (tVar 15) (tVar 18)) tNil)) (tOp (rIxL g.K) (tVar 17) (tVar 18))))) (tVar 18) [18]) (tLst tNil))) tf tNext)))) R D σ0 H := by
  have hqS : S q = true := (hS q).mpr (.inl rfl)
  have hal : (all.map V.ref).length = L.length := by rw [List.length_map, hL]
  have ptop := p0
  obtain ⟨Fa, _, _, _, _, _, pla⟩ := ptop
  refine ⟨.ref q, s15, q, all.map V.ref, rfl, .inl (SqL.of pla.1), ?_⟩
  refine ⟨_, rfl, by rw [hal]; omega, by rw [hal]; omega, ?_⟩
  rw [hal, Int.toNat_natCast]
  refine for_it (walk_range (lo := 0) (n := L.length)) (fun i σ' H' => PkI g lf F0 H0 S Fz q all L σ0 i σ' H') p0 (fun _ _ _ _ _ => trivial) (fun i x σ H H3 hi p y => ?_) fun σ' H' p => k σ' H' p
  obtain ⟨rfl, rfl⟩ := y
  obtain ⟨F', gr, sm, ln, sl, hF, pl⟩ := p
  obtain ⟨W1, s1, dq1, fr1, back1⟩ := pk_snap w0 gr sm hS hn hL hF pl
  have q15 : (σ.set 16 (some (.int (0 + (i : Int)))))[15]? = some (some (.ref q)) := by
    rw [List.getElem?_set_ne (by decide), sl 15 (by decide)]
    exact s15
  have q16 : (σ.set 16 (some (.int (0 + (i : Int)))))[16]? = some (some (.int (0 + (i : Int)))) := List.getElem?_set_self (by omega)
  generalize hσ1 : σ.set 16 (some (.int (0 + (i : Int)))) = σ1 at *
  have ln1 : σ1.length = 20 := by rw [← hσ1, List.length_set, ln]
  have sl1 : ∀ j, j < 16 → σ1[j]? = σ0[j]? := fun j hj => by rw [← hσ1, List.getElem?_set_ne (by omega), sl j hj]
  show tSeq _ _ _ (σ.set 16 (some (.int (0 + (i : Int))))) _
  rw [hσ1]
  have E1 : Ew g ⟨lf, frzF S F' H3, H3⟩ σ1 (frzF S F' H3) H3 (((List.replicate 20 none).set 15 (some (.d (.list ((List.range L.length).map (curD L i)))))).set 16 (some (.d (.int (i : Int))))) := ((Ew.blank W1 σ1 ln1).put q15 (rx_d dq1) d_own).put q16 (by rw [Int.zero_add]; exact rx_d (Dq.int _)) d_own
  have ev1 : Ev g (tLc (iList g.K (tVar 15)) (gName 13) tYes (tCB (rRepr g.K) (tCons (tVar 13) tNil)) [13]) (((List.replicate 20 none).set 15 (some (.d (.list ((List.range L.length).map (curD L i)))))).set 16 (some (.d (.int (i : Int))))) (.d (.list ((List.range L.length).map fun k => PyData.str (curD L i k).shown))) := ev_lcA (l := List.range L.length) (enc := curD L i) (f := fun k => PyData.str (curD L i k).shown) (it_list (ds := (List.range L.length).map (curD L i)) (ev_var rfl)) (by rw [List.length_range]; omega) fun a ha => ⟨_, _, tg_d, by decide, ev_repr (ev_var rfl) (hsh i a) (by decide) (by decide) (.inl ⟨_, rfl⟩)⟩
  refine rq_val (ev1 _ _ _ _ E1 _ fun v17 F2 H2 x2 r2 rx2 p2 => ?_)
  subst p2
  have b2 := back1 F2 H2 r2
  have g2 : Gr g lf F0 H0 (unfF S F2) H2 := gr.trans w0 b2
  have hbS : ∀ b, S b = true → b ≠ g.T ∧ lf ≠ some b := fun b hb => ⟨w0.T_ne (hn b hb), w0.lf_ne (hn b hb)⟩
  have keep2 : ∀ b o, S b = true → H3 b = some o → H2 b = some o := fun b o hb ho => r2.hh b o (hbS b hb).1 (hbS b hb).2 ho
  have f2S : ∀ b, S b = true → ∀ o, H3 b = some o → F2 b = some o := fun b hb o ho => r2.ff b o (by rw [fr1 b hb]; exact ho)
  have hi2 : i < L.length := hi
  have dq17 : Dq (unfF S F2) v17 (.list (((List.range L.length).map fun k => (curD L i k).shown).map .str)) := by
    refine unf_strs (by rw [List.map_map]; exact rx2) fun b hb z => ?_
    have hne : ((List.range L.length).map fun k => (curD L i k).shown) ≠ [] := fun z => by
      have := congrArg List.length z
      rw [List.length_map, List.length_range, List.length_nil] at this
      omega
    obtain ⟨t, ts, ht⟩ := List.exists_cons_of_ne_nil hne
    rw [ht] at z
    rcases (hS b).mp hb with e | hm
    · subst e
      rw [f2S b hb _ pl.1] at z
      cases all with
      | nil => rw [List.length_nil] at hL; omega
      | cons a all => simp at z
    · obtain ⟨j, hj⟩ := List.mem_iff_getElem?.mp hm
      have hjl := (List.getElem?_eq_some_iff.mp hj).1
      have hLj : L[j]? = some L[j] := List.getElem?_eq_getElem (by omega)
      obtain ⟨xs, e1, e2⟩ := pl.2 j b _ hj hLj
      rw [f2S b hb _ e1] at z
      have z : xs = V.str t :: ts.map V.str := by simpa using z
      rw [z] at e2
      generalize hds : (L[j] ++ if j < i then [PyData.none] else []) = ds at e2
      cases e2 with
      | cons hd tl =>
        rename_i d ds
        have := dq_str_of hd
        have hdm : d ∈ L[j] ++ if j < i then [PyData.none] else [] := by rw [hds]; exact List.mem_cons_self
        rcases List.mem_append.mp hdm with q1 | q1
        · exact hstr _ (List.getElem_mem _) d q1 t this
        · split at q1
          · rw [List.mem_singleton.mp q1] at this
            cases this
          · cases q1
  have pl2 : PkL H2 Fz q all L i := ⟨keep2 q _ hqS pl.1, fun j l ds h1 h2 => by
    obtain ⟨xs, e1, e2⟩ := pl.2 j l ds h1 h2
    exact ⟨xs, keep2 l _ ((hS l).mpr (.inr (List.mem_of_getElem? h1))) e1, e2⟩⟩
  -- None is put behind the list at i
  have t15 : (σ1.set 17 (some v17))[15]? = some (some (.ref q)) := by rw [List.getElem?_set_ne (by decide)]; exact q15
  have t16 : (σ1.set 17 (some v17))[16]? = some (some (.int (0 + (i : Int)))) := by rw [List.getElem?_set_ne (by decide)]; exact q16
  have t17 : (σ1.set 17 (some v17))[17]? = some (some v17) := List.getElem?_set_self (by omega)
  have ln2 : (σ1.set 17 (some v17)).length = 20 := by rw [List.length_set, ln1]
  have sl2 : ∀ j, j < 16 → (σ1.set 17 (some v17))[j]? = σ0[j]? := fun j hj => by rw [List.getElem?_set_ne (by omega), sl1 j hj]
  show tSeq _ _ _ (σ1.set 17 (some v17)) H2
  generalize σ1.set 17 (some v17) = σ2 at *
  have hLi : L[i]? = some L[i] := List.getElem?_eq_getElem hi2
  have hai : all[i]? = some all[i] := List.getElem?_eq_getElem (by omega)
  generalize all[i] = l at hai
  obtain ⟨xs, e1, e2⟩ := pl2.2 i l _ hai hLi
  have hlS : S l = true := (hS l).mpr (.inr (List.mem_of_getElem? hai))
  rw [if_neg (Nat.lt_irrefl i), List.append_nil] at e2
  refine ⟨.ref q, t15, .int (0 + (i : Int)), t16, q, all.map V.ref, 0 + (i : Int), .ref l, rfl, rfl, SqL.of pl2.1, by rw [Int.zero_add, atI_nat, List.getElem?_map, hai]; rfl, .inl ⟨rfl, _, SqL.of e1⟩, l, xs, .non, rfl, rfl, e1, ?_, ?_⟩
  · rw [e2.length]
    exact Nat.lt_of_le_of_lt (hlen _ (List.getElem_mem _)) (by decide)
  have g4 : Gr g lf F0 H0 (unfF S F2) (upd H2 l (.lst (xs ++ [V.non]))) := g2.poke (hn l hlS) e1 (by unfold unfF; rw [if_pos hlS]) (hbS l hlS).2 (fun _ z => by cases z) (fun _ z => by cases z) fun _ z => by cases z
  have lq : q ≠ l := fun z => hq (by rw [z]; exact List.mem_of_getElem? hai)
  have sm2 : Same Fz (unfF S F2) := sm.trans b2.ff
  have pl4 : PkL (upd H2 l (.lst (xs ++ [V.non]))) Fz q all L (i + 1) := by
    refine ⟨by rw [upd_ne lq]; exact pl2.1, fun j l' ds h1 h2 => ?_⟩
    by_cases hj : j = i
    · subst hj
      rw [hai] at h1
      cases h1
      rw [hLi] at h2
      cases h2
      rw [if_pos (Nat.lt_succ_self j)]
      exact ⟨_, upd_same, e2.append (.cons .non .nil)⟩
    · have ne : l' ≠ l := fun z => hj ((List.getElem?_inj (List.getElem?_eq_some_iff.mp h1).1 nd).mp (by rw [h1, hai, z]))
      obtain ⟨xs', w1, w2⟩ := pl2.2 j l' ds h1 h2
      have : (j < i + 1) = (j < i) := propext ⟨fun _ => by omega, fun _ => by omega⟩
      refine ⟨xs', by rw [upd_ne ne]; exact w1, ?_⟩
      simp only [this]
      exact w2
  obtain ⟨W4, s4, dq4, fr4, back4⟩ := pk_snap w0 g4 sm2 hS hn hL (fun b hb => by unfold unfF; rw [if_pos hb]) pl4
  generalize upd H2 l (.lst (xs ++ [V.non])) = H4 at *
  have E4 : Ew g ⟨lf, frzF S (unfF S F2) H4, H4⟩ σ2 (frzF S (unfF S F2) H4) H4 ((((List.replicate 20 none).set 15 (some (.d (.list ((List.range L.length).map (curD L (i + 1))))))).set 16 (some (.d (.int (i : Int))))).set 17 (some (.d (.list (((List.range L.length).map fun k => (curD L i k).shown).map .str))))) := (((Ew.blank W4 σ2 ln2).put t15 (rx_d dq4) d_own).put t16 (by rw [Int.zero_add]; exact rx_d (Dq.int _)) d_own).put t17 (rx_d (dq17.mono s4)) d_own
  refine if_chk E4 (eb_none (ev_lc0 (l := List.range L.length) (enc := fun k : Nat => PyData.int (k : Int)) (it_rangeN (n := L.length) ((ev_len (ds := (List.range L.length).map (curD L (i + 1))) (ev_var rfl) rfl).is (by rw [List.length_map, List.length_range])) (by omega)) (by rw [List.length_range]; omega) fun k hk => ⟨_, _, tg_d, by decide, (eb_and (b := !decide ((curD L (i + 1) k).shown = (curD L i k).shown)) (eb_test (ev_neN (n := k) (k := i) (ev_var rfl) (ev_var rfl))) fun _ => eb_test (ev_neS (ev_repr (ev_ixLn (ds := (List.range L.length).map (curD L (i + 1))) (n := k) (ev_var rfl) (ev_var rfl) rfl (by rw [List.getElem?_map, List.getElem?_range (List.mem_range.mp hk)]; rfl)) (hsh (i + 1) k) (by decide) (by decide) (.inl ⟨_, rfl⟩)) (ev_ixLn (ds := ((List.range L.length).map fun k => (curD L i k).shown).map .str) (n := k) (ev_var rfl) (ev_var rfl) rfl (by rw [List.getElem?_map, List.getElem?_map, List.getElem?_range (List.mem_range.mp hk)]; rfl)))).is ?_⟩)) rfl fun F5 H5 E5 r5 => ?_
  · by_cases hki : k = i
    · rw [decide_eq_true hki]
      rfl
    · have : curD L (i + 1) k = curD L i k := by
        unfold curD
        have : (k < i + 1) = (k < i) := propext ⟨fun _ => by omega, fun _ => by omega⟩
        simp only [this]
      rw [this]
      simp
  · have b5 := back4 F5 H5 r5
    have keep5 : ∀ b o, S b = true → H4 b = some o → H5 b = some o := fun b o hb ho => r5.hh b o (hbS b hb).1 (hbS b hb).2 ho
    exact ⟨_, g4.trans w0 b5, sm2.trans b5.ff, ln2, sl2, fun b hb => by unfold unfF; rw [if_pos hb], keep5 q _ hqS pl4.1, fun j l ds h1 h2 => by
      obtain ⟨xs, e1, e2⟩ := pl4.2 j l ds h1 h2
      exact ⟨xs, keep5 l _ ((hS l).mpr (.inr (List.mem_of_getElem? h1))) e1, e2⟩⟩
end TB
set_option Elab.async false
set_option linter.all false
set_option autoImplicit false
set_option maxRecDepth 100000
set_option maxHeartbeats 4000000
namespace TB
open PySem PySem.Spec PyProof.Rows L2
abbrev N__law_told_right : List Str := ["_law_many", "_law_roads", "_law_messages", "_law_begun", "_law_is_cut", "_law_news_here", "_law_shown", "_law_lots_here", "_law_lot_here", "_law_more", "_law_told", "_law_word", "_law_paper", "_law_some", "_law_kept", "_law_rows_here", "_law_at", "_law_texts", "_law_spot", "_law_again"]
abbrev ps__law_told_right : List Str := ["_law_many", "_law_roads", "_law_messages", "_law_begun", "_law_is_cut"]
theorem sc__law_told_right : FnScope N__law_told_right ps__law_told_right (defScope s_law_told_right) := ⟨rfl, rfl, rfl, by decide +kernel, rfl, by decide +kernel, by decide +kernel⟩
theorem nd__law_told_right : N__law_told_right.Nodup := sc__law_told_right.nd
theorem bd__law_told_right : BindH "_law_told_right" "_law_told_right" ps__law_told_right s_law_told_right := fun _ _ _ _ _ _ us hl => match us, hl with | [_, _, _, _, _], _ => rfl
theorem ok__law_told_right {P : Program} {w : World} {mg : Str → Option Value} {base : Heap} {g : Gb} (c : Txt g mg base) : GFk P w g.K mg base 8 "_law_told_right" ps__law_told_right (spTold g) := by
  have tx := txt_tx c
  refine GFk.raw (h__law_told_right c) sc__law_told_right bd__law_told_right (fun vs H Q E h => ?_) fun cdv A outer s H E hgd hr => ⟨_, (pss_cons (ps_par (i := 5) (j := 6) rfl nd__law_told_right rfl rfl (by decide) rfl rfl (pa_cons (pe_makeC g.K (ok_News___init__ c) (mk_News c) (gl_News c) (hr.mono (by decide)) (pa_cons (pe_makeC g.K (ok_Net___init__ c) (mk_Net c) (gl_Net c) (hr.mono (by decide)) (pa_cons (pv 0) (pa_cons (pv 1) pa_nil))) (pa_cons (pv 2) pa_nil))) (pa_cons (pe_callB (cRepr g.K hgd hr) (by rfl) tx.repr bt_repr (pa_cons (pv 3) pa_nil)) pa_nil)) (by rfl))
    (pss_cons (ps_setLc (i := 7) rfl nd__law_told_right rfl rfl (sw_true rfl rfl rfl (by decide +kernel)) (piL g.K (pe_callF (ok__law_left_rows c) (hr.mono (by decide)) (pa_cons (pv 0) (pa_cons (pv 1) (pa_cons (pv 2) (pa_cons (pv 3) pa_nil)))))) (blkOk_by (own := [("_law_lot_here", 8), ("_law_more", 9)]) (N := N__law_told_right) (sc := defScope s_law_told_right) (by decide +kernel)) (fun _ _ _ _ _ => (pgT g.K 2 (pgs_cons (pg_name (i := 8) nd__law_told_right rfl (Or.inl rfl)) (pgs_cons (pg_name (i := 9) nd__law_told_right rfl (Or.inl rfl)) pgs_nil)))) (fun _ _ _ _ _ => (pts_one (pt_cmpR op_lt (pv 9) pe_int (nomark _)))) (fun _ _ _ _ _ => (pv 8)))
    (pss_cons (ps_set (i := 10) nd__law_told_right rfl (Or.inl rfl) (pe_callF (ok_finish c) (hr.mono (by decide)) (pa_cons (pv 5) (pa_cons (pv 3) pa_nil))))
    (pss_cons (ps_if (PW.pt (pw_or (pt_cmpR op_ne (pe_callB (cRepr g.K hgd hr) (by rfl) tx.repr bt_repr (pa_cons (pv 3) pa_nil)) (pv 6) (nomark _)) (pw_or (PW.pt (pw_and (pt_val (pv 4)) (pw_and1 (pt_cmpR (opNeD g.K hr.units) (pv 7) (pe_lst pa_nil) (nomark _))))) (pw_or (pt_not (pt_val (pe_callB (cIsi g.K) (by rfl) tx.isinstance bt_isinstance (pa_cons (pv 10) (pa_cons (pe_bltn (v := .ty "tuple") (by rfl) tx.tuple bt_tuple rfl) pa_nil))))) (pw_or1 (pt_cmpR op_ne (pe_callB (cLen g.K) (by rfl) tx.len bt_len (pa_cons (pv 10) pa_nil)) pe_int (nomark _))))))) (pss_one (ps_ret pe_bl)) pss_nil)
    (pss_cons (ps_asg (pv 10) (pgT g.K 2 (pgs_cons (pg_name (i := 11) nd__law_told_right rfl (Or.inl rfl)) (pgs_cons (pg_name (i := 12) nd__law_told_right rfl (Or.inl rfl)) pgs_nil))))
    (pss_cons (ps_if (pt_cmpR (opNeD g.K hr.units) (pv 7) (pe_lst pa_nil) (nomark _)) (pss_one (ps_ret (pe_and (pe_cmpR op_eq (pv 11) pe_str (nomark _)) (pe_one (pe_cmpR op_eq (pe_callB (cRepr g.K hgd hr) (by rfl) tx.repr bt_repr (pa_cons (pv 12) pa_nil)) (pe_callB (cRepr g.K hgd hr) (by rfl) tx.repr bt_repr (pa_cons (pe_ix (ixL g.K) (pv 7) pe_int (fun _ _ => rfl)) pa_nil)) (nomark _)))))) pss_nil)
    (pss_cons (ps_if (PW.pt (pw_or (pt_cmpR op_ne (pv 11) pe_str (nomark _)) (pw_or (pt_not (pt_val (pe_callF (ok__law_is_finish c) (hr.mono (by decide)) (pa_cons (pv 1) (pa_cons (pv 2) (pa_cons (pv 3) (pa_cons (pv 12) pa_nil))))))) (pw_or1 (pt_cmpR op_notBl (pe_callF (ok_is_finish c) (hr.mono (by decide)) (pa_cons (pv 5) (pa_cons (pv 3) (pa_cons (pv 12) pa_nil)))) pe_bl (nomark _)))))) (pss_one (ps_ret pe_bl)) pss_nil)
    (pss_cons (ps_if (pt_cmpR op_gt (pe_op op_add (pe_callB (cSum g.K rfl) (by rfl) tx.sum bt_sum (pa_cons (pe_lc rfl nd__law_told_right (piL g.K (pe_ix (ixT g.K) (pv 12) pe_int (fun _ _ => rfl))) (blkOk_by (own := [("_law_some", 13)]) (N := N__law_told_right) (sc := defScope s_law_told_right) (by decide +kernel)) (fun _ _ _ _ _ => (pg_name (i := 13) nd__law_told_right rfl (Or.inl rfl))) (fun _ _ _ _ _ => pts_nil) (fun _ _ _ _ _ => (pe_callB (cLen g.K) (by rfl) tx.len bt_len (pa_cons (pv 13) pa_nil)))) pa_nil)) (pe_callB (cLen g.K) (by rfl) tx.len bt_len (pa_cons (pe_ix (ixT g.K) (pv 12) pe_int (fun _ _ => rfl)) pa_nil))) pe_int (nomark _)) (pss_one (ps_ret pe_bl)) pss_nil)
    (pss_cons (ps_asg (pe_tup (pa_cons (pe_callB (cRepr g.K hgd hr) (by rfl) tx.repr bt_repr (pa_cons (pv 12) pa_nil)) (pa_cons (pe_op op_cat (pe_ix (ixT g.K) (pv 12) pe_int (fun _ _ => rfl)) (pe_lst (pa_cons (pe_ix (ixT g.K) (pv 12) pe_int (fun _ _ => rfl)) pa_nil))) pa_nil))) (pgT g.K 2 (pgs_cons (pg_name (i := 14) nd__law_told_right rfl (Or.inl rfl)) (pgs_cons (pg_name (i := 15) nd__law_told_right rfl (Or.inr rfl)) pgs_nil))))
    (pss_cons (ps_for PassesOwn.never rfl (pi_range1 rfl tx.range (pa_cons (pe_callB (cLen g.K) (by rfl) tx.len bt_len (pa_cons (pv 15) pa_nil)) pa_nil)) (pg_name (i := 16) nd__law_told_right rfl (Or.inr rfl)) (pss_cons (ps_set (i := 17) nd__law_told_right rfl (Or.inr rfl) (pe_lc rfl nd__law_told_right (piL g.K (pv 15)) (blkOk_by (own := [("_law_some", 13)]) (N := N__law_told_right) (sc := defScope s_law_told_right) (by decide +kernel)) (fun _ _ _ _ _ => (pg_name (i := 13) nd__law_told_right rfl (Or.inl rfl))) (fun _ _ _ _ _ => pts_nil) (fun _ _ _ _ _ => (pe_callB (cRepr g.K hgd hr) (by rfl) tx.repr bt_repr (pa_cons (pv 13) pa_nil)))))
    (pss_cons (ps_expr (pe_bm PySem.F.plainAttrs_list PySem.F.slot_list_append PySem.F.type_list_append mt_append (pe_ix (ixL g.K) (pv 15) (pv 16) (fun _ _ => rfl)) (pa_cons pe_non pa_nil)))
    (pss_one (ps_if (pt_cmpR (opNeD g.K hr.units) (pe_lc rfl nd__law_told_right (pi_range1 rfl tx.range (pa_cons (pe_callB (cLen g.K) (by rfl) tx.len bt_len (pa_cons (pv 15) pa_nil)) pa_nil)) (blkOk_by (own := [("_law_spot", 18)]) (N := N__law_told_right) (sc := defScope s_law_told_right) (by decide +kernel)) (fun _ _ _ _ _ => (pg_name (i := 18) nd__law_told_right rfl (Or.inl rfl))) (fun _ _ _ _ _ => (pts_one (PW.pt (pw_and (pt_cmpR op_ne (pv 18) (pv 16) (nomark _)) (pw_and1 (pt_cmpR op_ne (pe_callB (cRepr g.K hgd hr) (by rfl) tx.repr bt_repr (pa_cons (pe_ix (ixL g.K) (pv 15) (pv 18) (fun _ _ => rfl)) pa_nil)) (pe_ix (ixL g.K) (pv 17) (pv 18) (fun _ _ => rfl)) (nomark _))))))) (fun _ _ _ _ _ => (pv 18))) (pe_lst pa_nil) (nomark _)) (pss_one (ps_ret pe_bl)) pss_nil)))))
    (pss_cons (ps_set (i := 19) nd__law_told_right rfl (Or.inl rfl) (pe_callF (ok_finish c) (hr.mono (by decide)) (pa_cons (pv 5) (pa_cons (pv 3) pa_nil))))
    (pss_one (ps_ret (pe_and (pe_cmpR op_eq (pe_ix (ixT g.K) (pv 19) pe_int (fun _ _ => rfl)) pe_str (nomark _)) (pe_one (pe_cmpR op_eq (pe_callB (cRepr g.K hgd hr) (by rfl) tx.repr bt_repr (pa_cons (pe_ix (ixT g.K) (pv 19) pe_int (fun _ _ => rfl)) pa_nil)) (pv 14) (nomark _))))))))))))))))), ?_⟩
  · obtain ⟨lf, F, h, rs, ms, B, cut, _, a, _⟩ := h
    rw [a.length]
    rfl
  rintro vs H0 Q E' ⟨lf, F0, h, rs, ms, B, cut, w0, a, ok, bo, to, hQ⟩
  have hh := ok.net.h6
  have hm := ok.few
  have hb := bo.few
  have hll := lotsL_len h (by omega)
  have shB := sh_begun ok bo
  have E0 : Ew g ⟨lf, F0, H0⟩ (L2.start N__law_told_right vs) F0 H0 (startR N__law_told_right [.d (.int (h : Int)), .d (rdsD rs), .d (msgsD ms), .d (entsD B), .d (.bool cut)]) := ew_start w0 a
  refine rq_st (M := fun ρ => ρ = [some (.d (.int (h : Int))), some (.d (rdsD rs)), some (.d (msgsD ms)), some (.d (entsD B)), some (.d (.bool cut)), some (newsX h rs ms), some (.d (.str (entsD B).shown)), none, none, none, none, none, none, none, none, none, none, none, none, none]) E0 (st_par (ea_cons (ev_make (x := newsX h rs ms) (ea_cons (ev_make (x := netX h rs) (ea_cons (ev_var rfl) (ea_cons (ev_var rfl) ea_nil)) ⟨h, rs, rfl, ok.net, fun F a q => ⟨a, rfl, q⟩⟩) (ea_cons (ev_var rfl) ea_nil)) ⟨h, rs, ms, rfl, ok, fun F a q => ⟨a, rfl, q⟩⟩) (ea_cons (ev_repr (ev_var rfl) shB (by decide) (by decide) (.inl ⟨_, rfl⟩)) ea_nil)) rfl rfl rfl) ?_
  rintro σ1 F1 H1 _ s1 E1 rfl
  refine rq_st (M := fun ρ => ρ = [some (.d (.int (h : Int))), some (.d (rdsD rs)), some (.d (msgsD ms)), some (.d (entsD B)), some (.d (.bool cut)), some (newsX h rs ms), some (.d (.str (entsD B).shown)), some (.d (lotsD (lackM h rs ms B))), none, none, none, none, none, none, none, none, none, none, none, none]) E1 (st_set (x := .d (lotsD (lackM h rs ms B))) ((ev_lc (l := lotsL h) (enc := fun l => PyData.tuple [tupN l, .int (leftL rs ms B l)]) (p := fun l => decide (leftL rs ms B l < 0)) (f := tupN) (it_list (ds := (lotsL h).map fun l => PyData.tuple [tupN l, .int (leftL rs ms B l)]) (ev_call (P := fun y => y = .d (rowsL h (leftL rs ms B))) (ea_cons (ev_var rfl) (ea_cons (ev_var rfl) (ea_cons (ev_var rfl) (ea_cons (ev_var rfl) ea_nil)))) ⟨h, rs, ms, B, rfl, ok, bo, rfl⟩)) (by omega) fun l hl => ⟨_, _, tg_tup (tgs_cons tg_d (tgs_cons tg_d tgs_nil)) rfl, by decide, eb_test (ev_lt (ev_var rfl) ev_int), fun _ => ev_var rfl⟩).is (by rw [to.lots]; rfl)) rfl rfl) ?_
  rintro σ2 F2 H2 _ s2 E2 rfl
  obtain ⟨v3, hv3, rx3⟩ := E2.bd 3 _ rfl
  obtain ⟨v5, hv5, rx5⟩ := E2.bd 5 _ rfl
  have tst : ∀ (ρ : Rho) (K : PySem.W.Frag), ρ[7]? = some (some (.d (lotsD (lackM h rs ms B)))) → EvB g (tTest (tOp (rNeD K) (tVar 7) (tLst tNil))) ρ (!decide (lackM h rs ms B = [])) := fun ρ K h7 => (eb_test (ev_neD (ev_var h7) (ev_lst ed_nil) (pl_lots _).sh rfl)).is (by show (!PyData.eqv (.list ((lackM h rs ms B).map tupN)) (.list [])) = _; rw [eqv_nil]; simp)
  refine ⟨v5, hv5, v3, hv3, lf, F2, h, rs, ms, B, E2.wl, .cons rx5 (.cons rx3 .nil), ok, bo, ?_⟩
  cases hL : lackM h rs ms B with
  | cons l L =>
    refine .inl ⟨l, L, rfl, fun v F3 H3 gr dq => ?_⟩
    have hcut : cut = false := by
      cases hc : cut with
      | false => rfl
      | true => rw [to.cut hc] at hL; cases hL
    have hlot : LotOk h l := lotsL_ok h (by omega) l (List.mem_filter.mp (by show l ∈ lackM h rs ms B; rw [hL]; exact List.mem_cons_self)).1
    have E3 := (E2.grow gr).set (i := 10) (x := .d (.tuple [.str "no", tupN l])) dq (fun _ z => nomatch z)
    have in10 : ∀ ρ : Rho, ρ[10]? = some (some (.d (.tuple [.str "no", tupN l]))) → Ev g (tVar 10) ρ (.d (.tuple [.str "no", tupN l])) := fun ρ h => ev_var h
    refine (sq_no (po := ⟨fun _ => False, fun x => x = .d (.bool true), fun _ => False, fun _ => False⟩) (b := false) ((eb_or (eb_test (ev_neS (ev_repr (ev_var rfl) shB (by decide) (by decide) (.inl ⟨_, rfl⟩)) (ev_var rfl))) fun _ => eb_or (eb_and (b := !decide (lackM h rs ms B = [])) (eb_test (ev_var rfl)) fun _ => tst _ _ rfl) fun _ => eb_or (eb_not (eb_test (ev_isi (in10 _ rfl) rfl rfl))) fun _ => eb_test (ev_neN (ev_len (in10 _ rfl) rfl) (ev_n 2))).is (by rw [hcut]; simp)) rfl ?_) _ _ _ _ _ E3 ⟨fun _ _ _ _ _ _ z => z.elim, fun v F' H' x gr2 fx px => ?_, fun _ _ _ _ _ _ z => z.elim, fun _ _ _ _ _ _ z => z.elim⟩
    · refine sq_asg (P := fun y => y = .d (.tuple [.str "no", tupN l])) (in10 _ rfl) ?_
      rintro y rfl
      refine ⟨_, _, tg_tup (tgs_cons tg_d (tgs_cons tg_d tgs_nil)) rfl, ?_⟩
      refine sq_ifB (tst _ _ rfl) (fun _ => sq_ret (st_ret (x := .d (.bool true)) ((ev_andV (a := true) (b := true) ((ev_eqS (a := "no") (b := "no") (ev_var rfl) ev_str).is (by simp)) fun _ => (ev_eqS (a := (tupN l).shown) (b := (tupN l).shown) (ev_repr (ev_var rfl) (sh_lot hh hlot) (by decide) (by decide) (.inr ⟨_, rfl⟩)) (ev_repr (ev_ixLn (ds := (lackM h rs ms B).map tupN) (ev_var rfl) (ev_n 0) rfl (by rw [hL]; rfl)) (sh_lot hh hlot) (by decide) (by decide) (.inr ⟨_, rfl⟩))).is (by simp)).is rfl) rfl)) fun e => by rw [hL] at e; simp at e
    · subst px
      have hv : v = .bl true := Dq.bl_eq fx
      rw [hv]
      exact hQ F' H' gr2
  | nil =>
    obtain ⟨res, hO, hrows, hlens, hfin, h400⟩ := to.fin hL
    refine .inr ⟨rfl, res, hO, fun rows hr => by have := hrows rows hr; omega, hlens, fun v F3 H3 gr fin => ?_⟩
    obtain ⟨t, u, p, nw, ls, rfl, ht, hu, hp, dp, dn, nd, hn0⟩ := fin
    generalize hparts : partsOf B res = parts at *
    generalize hnew : entsAll (res.drop B.length) = new at *
    have du : Dq F3 (.ref u) (.tuple [.list (parts.map rowsD), entsD new]) := .tup hu (.cons (.lst hp dp) (.cons dn .nil))
    have dq : Dq F3 (.ref t) (.tuple [.str "yes", .tuple [.list (parts.map rowsD), entsD new]]) := .tup ht (.cons (.str _) (.cons du .nil))
    have E3 := (E2.grow gr).set (i := 10) (x := .d (.tuple [.str "yes", .tuple [.list (parts.map rowsD), entsD new]])) dq (fun _ z => nomatch z)
    have in10 : ∀ ρ : Rho, ρ[10]? = some (some (.d (.tuple [.str "yes", .tuple [.list (parts.map rowsD), entsD new]]))) → Ev g (tVar 10) ρ (.d (.tuple [.str "yes", .tuple [.list (parts.map rowsD), entsD new]])) := fun ρ h => ev_var h
    have s10 : (σ2.set 10 (some (.ref t)))[10]? = some (some (.ref t)) := List.getElem?_set_self (by rw [E2.ln]; show 10 < 20; decide)
    refine rq_if E3 (b := false) ((eb_or (eb_test (ev_neS (ev_repr (ev_var rfl) shB (by decide) (by decide) (.inl ⟨_, rfl⟩)) (ev_var rfl))) fun _ => eb_or (eb_and (b := !decide (lackM h rs ms B = [])) (eb_test (ev_var rfl)) fun _ => tst _ _ rfl) fun _ => eb_or (eb_not (eb_test (ev_isi (in10 _ rfl) rfl rfl))) fun _ => eb_test (ev_neN (ev_len (in10 _ rfl) rfl) (ev_n 2))).is (by rw [hL]; simp)) rfl fun F4 H4 E4 r4 => ?_
    refine ⟨.ref t, s10, t, [.str "yes", .ref u], rfl, SqT.of (r4.wl.same _ _ (r4.ff _ _ ht)), rfl, .str "yes", [.ref u], rfl, .ref u, [], rfl, rfl, ?_⟩
    have E5 := (E4.set (i := 11) (v := .str "yes") (x := .d (.str "yes")) (Dq.str _) (fun _ z => nomatch z)).set (i := 12) (v := .ref u) (x := .d (.tuple [.list (parts.map rowsD), entsD new])) (du.mono r4.ff) (fun _ z => nomatch z)
    refine rq_if E5 (tst _ _ rfl) (by rw [hL]; rfl) fun F6 H6 E6 r6 => ?_
    have hp4 : ∀ rows ∈ parts, rows.length ≤ 1000 := fun rows hr => by
      have : rows.length ≤ (parts.map List.length).sum := le_sumN (List.mem_map.mpr ⟨rows, hr, rfl⟩)
      omega
    refine rq_if E6 (b := false) ((eb_or (eb_test (ev_neS (a := "yes") (b := "yes") (ev_var rfl) ev_str)) fun _ => eb_or (eb_not (eb_test (ev_call (P := fun y => y = .d (.bool true)) (ea_cons (ev_var rfl) (ea_cons (ev_var rfl) (ea_cons (ev_var rfl) (ea_cons (ev_var rfl) ea_nil)))) ⟨h, rs, ms, B, parts, new, rfl, ok, bo, hfin, by omega, hp4, rfl⟩))) fun _ => eb_test (ev_notB (ev_call (P := fun y => y = .d (.bool true)) (ea_cons (ev_var rfl) (ea_cons (ev_var rfl) (ea_cons (ev_var rfl) ea_nil))) ⟨h, rs, ms, B, parts, new, rfl, ok, bo, hfin, by omega, hp4, rfl⟩) ev_bl)).is (by simp)) rfl fun F7 H7 E7 r7 => ?_
    have in12 : ∀ ρ : Rho, ρ[12]? = some (some (.d (.tuple [.list (parts.map rowsD), entsD new]))) → Ev g (tVar 12) ρ (.d (.tuple [.list (parts.map rowsD), entsD new])) := fun ρ h => ev_var h
    have hpl : parts.length ≤ 6 := by have := hfin.len; omega
    refine rq_if E7 (b := decide (400 < (parts.map fun r => (r.length : Int)).sum + (new.length : Int))) (eb_test (ev_gt (ev_add (ev_sum (ns := parts.map fun r => (r.length : Int)) (ev_lcA (l := parts) (enc := rowsD) (f := fun r => PyData.int (r.length : Int)) (it_list (ds := parts.map rowsD) (ev_ixTn (in12 _ rfl) (ev_n 0) rfl)) (by omega) fun r hr => ⟨_, _, tg_d, by decide, (ev_len (ds := r.map rwD) (ev_var rfl) rfl).is (by rw [List.length_map])⟩) (by rw [List.map_map]; rfl)) ((ev_len (ds := new.map entD) (ev_ixTn (in12 _ rfl) (ev_n 1) rfl) rfl).is (by rw [List.length_map]))) ev_int)) (by rw [cast_sum]; exact decide_eq_false (by omega)) fun F8 H8 E8 r8 => ?_
    have shP := sh_paper ok hfin h400 hpl
    have r48 : Gr g lf F4 H4 F8 H8 := ((r6.trans E5.wl r7).trans E5.wl r8)
    refine (ev_repr (in12 _ rfl) shP (by decide) (by decide) (.inr ⟨_, rfl⟩)) _ _ _ _ E8 _ fun v14 F9 H9 x9 r9 rx9 p9 => ?_
    subst p9
    have hv14 : v14 = .str (PyData.tuple [.list (parts.map rowsD), entsD new]).shown := Dq.str_eq rx9
    subst hv14
    have E9 := E8.grow r9
    have s12 : ((((σ2.set 10 (some (.ref t))).set 11 (some (.str "yes"))).set 12 (some (.ref u))))[12]? = some (some (.ref u)) := List.getElem?_set_self (by rw [List.length_set, List.length_set, E2.ln]; show 12 < 20; decide)
    have r39 : Gr g lf F3 H3 F9 H9 := r4.trans gr.wl (r48.trans r4.wl r9)
    have hu9 := E9.wl.same _ _ (r39.ff _ _ hu)
    have hp9 := E9.wl.same _ _ (r39.ff _ _ hp)
    refine ⟨.ref u, s12, u, [.ref p, .ref nw], 0, .ref p, rfl, rfl, SqT.of hu9, rfl, .ref u, s12, u, [.ref p, .ref nw], 1, .ref nw, rfl, rfl, SqT.of hu9, rfl, by show 1 ≤ sizeLine; decide, fun q0 hq0 => ?_⟩
    have g10 : Gr g lf F9 H9 F9 (upd H9 q0 (.lst [.ref nw])) := Gr.newH E9.wl hq0
    have pq0 : p ≠ q0 := fun z => by rw [z, hq0] at hp9; cases hp9
    refine ⟨p, q0, ls.map V.ref, [.ref nw], rfl, rfl, g10.hh p _ (fun z => ?_) (fun z => ?_) hp9, upd_same, ?_, fun q hq => ?_⟩
    · obtain ⟨ps, hT⟩ := E9.wl.tbl
      rw [← z, hp9] at hT
      cases hT
    · obtain ⟨hf, _⟩ := E9.wl.feed p z
      rw [r39.ff _ _ hp] at hf
      cases hf
    · have : (ls.map V.ref).length = parts.length := by rw [dp.length, List.length_map]
      rw [this]
      exact Nat.le_trans (show parts.length + 1 ≤ 7 by omega) (by decide)
    have g11 : Gr g lf F9 (upd H9 q0 (.lst [.ref nw])) F9 (upd (upd H9 q0 (.lst [.ref nw])) q (.lst (ls.map V.ref ++ [.ref nw]))) := Gr.newH g10.wl hq
    refine ⟨by show 2 ≤ sizeLine; decide, fun tt htt => ?_⟩
    generalize hkept : (PyData.tuple [.list (parts.map rowsD), entsD new]).shown = kept at *
    have g12 : Gr g lf F9 (upd (upd H9 q0 (.lst [.ref nw])) q (.lst (ls.map V.ref ++ [.ref nw]))) F9 (upd (upd (upd H9 q0 (.lst [.ref nw])) q (.lst (ls.map V.ref ++ [.ref nw]))) tt (.tup [.str kept, .ref q])) := Gr.newH g11.wl htt
    refine ⟨tt, [.str kept, .ref q], rfl, SqT.of upd_same, rfl, .str kept, [.ref q], rfl, .ref q, [], rfl, rfl, ?_⟩
    have g912 := g10.trans E9.wl (g11.trans g10.wl g12)
    have qtt : q ≠ tt := fun z => by rw [← z, upd_same] at htt; cases htt
    have hqq : (upd (upd (upd H9 q0 (.lst [.ref nw])) q (.lst (ls.map V.ref ++ [.ref nw]))) tt (.tup [.str kept, .ref q])) q = some (.lst (ls.map V.ref ++ [.ref nw])) := by rw [upd_ne qtt, upd_same]
    generalize hH12 : (upd (upd (upd H9 q0 (.lst [.ref nw])) q (.lst (ls.map V.ref ++ [.ref nw]))) tt (.tup [.str kept, .ref q])) = H12 at *
    -- the lists are written one after the other
    have gr29 : Gr g lf F2 H2 F9 H12 := gr.trans E2.wl (r39.trans gr.wl g912)
    have hq9 : H9 q = none := by
      by_cases z : q = q0
      · rw [z, upd_same] at hq
        cases hq
      · rwa [upd_ne z] at hq
    have hq2 : H2 q = none := Gr.h0 (gr.trans E2.wl r39) hq9
    obtain ⟨S, hS⟩ : ∃ S : Addr → Bool, ∀ b, S b = true ↔ b = q ∨ b ∈ ls ++ [nw] := ⟨fun b => decide (b = q) || decide (b ∈ ls ++ [nw]), fun b => by rw [Bool.or_eq_true, decide_eq_true_eq, decide_eq_true_eq]⟩
    have hn : ∀ b, S b = true → H2 b = none := fun b hb => by
      rcases (hS b).mp hb with e | z
      · rw [e]
        exact hq2
      · rcases List.mem_append.mp z with z | z
        · exact hn0 b (List.mem_cons_of_mem _ (List.mem_cons_of_mem _ z))
        · rw [List.mem_singleton.mp z]
          exact hn0 nw (List.mem_cons_of_mem _ List.mem_cons_self)
    have dp9 : DqAll F9 (ls.map V.ref) (parts.map rowsD) := dp.mono r39.ff
    have dn9 : Dq F9 (.ref nw) (entsD new) := dn.mono r39.ff
    have hcell : ∀ (k : Nat) l, (ls ++ [nw])[k]? = some l → ∃ xs, F9 l = some (.lst xs) := fun k l hk => by
      obtain ⟨xs, _, _, e, _⟩ := fin_cells (S := fun _ => false) dp9 dn9 (fun b xs z => by cases z) k l hk
      exact ⟨xs, e⟩
    have hStup : ∀ b xs, S b = true → F9 b ≠ some (.tup xs) := fun b xs hb z => by
      rcases (hS b).mp hb with e | hm
      · rw [e, E9.wl.F_none hq9] at z
        cases z
      · obtain ⟨k, hk⟩ := List.mem_iff_getElem?.mp hm
        obtain ⟨ys, e⟩ := hcell k b hk
        rw [e] at z
        cases z
    have hqn : q ∉ ls ++ [nw] := fun hm => by
      obtain ⟨k, hk⟩ := List.mem_iff_getElem?.mp hm
      obtain ⟨ys, e⟩ := hcell k q hk
      rw [E9.wl.F_none hq9] at e
      cases e
    have ndA : (ls ++ [nw]).Nodup := (List.perm_append_comm (l₁ := ls) (l₂ := [nw])).nodup_iff.mpr (List.nodup_cons.mp nd).2
    have hls : ls.length = parts.length := by have := dp.length; rwa [List.length_map, List.length_map] at this
    have hLl : (finL parts new).length = parts.length + 1 := by unfold finL; rw [List.length_append, List.length_map]; rfl
    have gU : Gr g lf F2 H2 (unfF S F9) H12 := Gr.unf E2.wl gr29 hn
    obtain ⟨shE, shR⟩ := fin_small ok hfin
    have hmemL : ∀ ds ∈ finL parts new, ds.length ≤ 1000 ∧ ∀ d ∈ ds, ∀ x, d ≠ PyData.str x := fun ds hds => by
      unfold finL at hds
      rcases List.mem_append.mp hds with z | z
      · obtain ⟨rows, hr, rfl⟩ := List.mem_map.mp z
        have : rows.length ≤ (parts.map List.length).sum := le_sumN (List.mem_map.mpr ⟨rows, hr, rfl⟩)
        refine ⟨by show (rows.map rwD).length ≤ 1000; rw [List.length_map]; omega, fun d hd x e => ?_⟩
        obtain ⟨r, _, rfl⟩ := List.mem_map.mp hd
        unfold rwD at e
        cases e
      · rw [List.mem_singleton.mp z]
        refine ⟨by show (new.map entD).length ≤ 1000; rw [List.length_map]; omega, fun d hd x e => ?_⟩
        obtain ⟨r, _, rfl⟩ := List.mem_map.mp hd
        unfold entD at e
        cases e
    have hl2 : σ2.length = 20 := E2.ln
    obtain ⟨σ0, hσ0⟩ : ∃ σ0, σ0 = (((((σ2.set 10 (some (V.ref t))).set 11 (some (V.str "yes"))).set 12 (some (V.ref u))).set 14 (some (V.str kept))).set 15 (some (V.ref q))) := ⟨_, rfl⟩
    have l0 : σ0.length = 20 := by rw [hσ0]; simp only [List.length_set]; exact hl2
    have a15 : σ0[15]? = some (some (.ref q)) := by rw [hσ0]; exact List.getElem?_set_self (by simp only [List.length_set]; omega)
    have a14 : σ0[14]? = some (some (.str kept)) := by rw [hσ0, List.getElem?_set_ne (by decide)]; exact List.getElem?_set_self (by simp only [List.length_set]; omega)
    have a5 : σ0[5]? = some (some v5) := by rw [hσ0, List.getElem?_set_ne (by decide), List.getElem?_set_ne (by decide), List.getElem?_set_ne (by decide), List.getElem?_set_ne (by decide), List.getElem?_set_ne (by decide)]; exact hv5
    have a3 : σ0[3]? = some (some v3) := by rw [hσ0, List.getElem?_set_ne (by decide), List.getElem?_set_ne (by decide), List.getElem?_set_ne (by decide), List.getElem?_set_ne (by decide), List.getElem?_set_ne (by decide)]; exact hv3
    show tSeq _ _ _ (((((σ2.set 10 (some (V.ref t))).set 11 (some (V.str "yes"))).set 12 (some (V.ref u))).set 14 (some (V.str kept))).set 15 (some (V.ref q))) H12
    rw [← hσ0]
    have p0 : PkI g lf F2 H2 S (unfF S F9) q (ls ++ [nw]) (finL parts new) σ0 0 σ0 H12 := ⟨unfF S F9, gU, Same.refl _, l0, fun _ _ => rfl, fun b hb => by unfold unfF; rw [if_pos hb], by rw [List.map_append]; exact hqq, fun k l ds h1 h2 => by
      obtain ⟨xs, ds', e1, e2, e3⟩ := fin_cells dp9 dn9 hStup k l h1
      rw [h2] at e1
      cases e1
      refine ⟨xs, g912.wl.same _ _ e2, ?_⟩
      rw [if_neg (Nat.not_lt_zero k), List.append_nil]
      exact e3⟩
    refine pk_loop E2.wl hS hn ndA hqn (by rw [hLl, List.length_append, hls]; rfl) (by omega) (by omega) (sh_cur shE shR h400) (fun ds h1 => (hmemL ds h1).2) (fun ds h1 => (hmemL ds h1).1) a15 l0 p0 fun σ' H' pI => ?_
    obtain ⟨F', gr', sm', ln', sl', hF', _⟩ := pI
    refine rq_val ⟨v5, by rw [sl' 5 (by decide)]; exact a5, v3, by rw [sl' 3 (by decide)]; exact a3, lf, F', h, rs, ms, B, gr'.wl, .cons (rx5.mono (H' := H') gr') (.cons (rx3.mono (H' := H') gr') .nil), ok, bo, .inr ⟨hL, res, hO, fun rows hr => by have := hrows rows hr; omega, hlens, fun v F6 H6 gr6 fin6 => ?_⟩⟩
    rw [hparts, hnew] at fin6
    obtain ⟨t', u', p', nw', ls', rfl, ht', hu', hp', dp', dn', _, _⟩ := fin6
    have du' : Dq F6 (.ref u') (.tuple [.list (parts.map rowsD), entsD new]) := .tup hu' (.cons (.lst hp' dp') (.cons dn' .nil))
    have dt' : Dq F6 (.ref t') (.tuple [.str "yes", .tuple [.list (parts.map rowsD), entsD new]]) := .tup ht' (.cons (.str _) (.cons du' .nil))
    have E6' : Ew g ⟨lf, F6, H6⟩ (σ'.set 19 (some (.ref t'))) F6 H6 (((List.replicate 20 none).set 14 (some (.d (.str kept)))).set 19 (some (.d (.tuple [.str "yes", .tuple [.list (parts.map rowsD), entsD new]])))) := ((Ew.blank gr6.wl (σ'.set 19 (some (.ref t'))) (by rw [List.length_set]; exact ln')).put (by rw [List.getElem?_set_ne (by decide), sl' 14 (by decide)]; exact a14) (rx_d (Dq.str kept)) d_own).put (List.getElem?_set_self (by omega)) (rx_d dt') d_own
    have ev6 : Ev g (tAndV (tOp rEq (tOp (rIxT g.K) (tVar 19) (tC (V.int 0))) (tC (V.str "yes"))) (tOp rEq (tCB (rRepr g.K) (tCons (tOp (rIxT g.K) (tVar 19) (tC (V.int 1))) tNil)) (tVar 14))) (((List.replicate 20 none).set 14 (some (.d (.str kept)))).set 19 (some (.d (.tuple [.str "yes", .tuple [.list (parts.map rowsD), entsD new]])))) (.d (.bool true)) := (ev_andV (a := true) (b := true) ((ev_eqS (a := "yes") (b := "yes") (ev_ixTn (ds := [.str "yes", .tuple [.list (parts.map rowsD), entsD new]]) (ev_var rfl) (ev_n 0) rfl) ev_str).is (by simp)) fun _ => (ev_eqS (a := kept) (b := kept) ((ev_repr (ev_ixTn (ds := [.str "yes", .tuple [.list (parts.map rowsD), entsD new]]) (ev_var rfl) (ev_n 1) rfl) shP (by decide) (by decide) (.inr ⟨_, rfl⟩)).is (by rw [hkept])) (ev_var rfl)).is (by simp)).is rfl
    refine rq_ret (ev6 _ _ _ _ E6' _ fun v' F7 H7 x7 r7 rx7 p7 => ?_)
    subst p7
    have hv' : v' = .bl true := Dq.bl_eq rx7
    rw [hv']
    exact hQ F7 H7 (E2.gr.trans w0 ((gr'.trans E2.wl gr6).trans E2.wl r7))
end TB
set_option Elab.async false
set_option linter.all false
set_option autoImplicit false
set_option maxRecDepth 100000
set_option maxHeartbeats 4000000
namespace TB
open PySem PySem.Spec PyProof.Rows L2
/-! ### what a statement does with slot 0: nothing -/
structure Agr (v0 : Option (Option V)) (D D' : Ends) : Prop where
  nx : ∀ σ H, σ[0]? = v0 → D.nx σ H = D'.nx σ H
  rt : D.rt = D'.rt
  bk : ∀ σ H, σ[0]? = v0 → D.bk σ H = D'.bk σ H
  ct : ∀ σ H, σ[0]? = v0 → D.ct σ H = D'.ct σ H
theorem Agr.symm {v0 : Option (Option V)} {D D' : Ends} (a : Agr v0 D D') : Agr v0 D' D := ⟨fun σ H h => (a.nx σ H h).symm, a.rt.symm, fun σ H h => (a.bk σ H h).symm, fun σ H h => (a.ct σ H h).symm⟩
def FrS (ts : TS) : Prop := ∀ v0 D D', Agr v0 D D' → ∀ (σ : St) (H : Hp), σ[0]? = v0 → ts D σ H = ts D' σ H
def FrG (tg : TG) : Prop := ∀ v0 (Q Q' : St → Hp → Prop), (∀ (σ : St) H, σ[0]? = v0 → Q σ H = Q' σ H) → ∀ v (σ : St) H, σ[0]? = v0 → tg v σ H Q = tg v σ H Q'
def FrGs (tg : TGs) : Prop := ∀ v0 (Q Q' : St → Hp → Prop), (∀ (σ : St) H, σ[0]? = v0 → Q σ H = Q' σ H) → ∀ vs (σ : St) H, σ[0]? = v0 → tg vs σ H Q = tg vs σ H Q'
theorem fr_seq {t u : TS} (ht : FrS t) (hu : FrS u) : FrS (tSeq t u) := fun v0 D D' a σ H h => ht v0 { D with nx := u D } { D' with nx := u D' } ⟨fun σ H h => hu v0 D D' a σ H h, a.rt, a.bk, a.ct⟩ σ H h
theorem fr_asg {te : TE} {tg : TG} (hg : FrG tg) : FrS (tAsg te tg) := fun v0 D D' a σ H h => congrArg (te σ H) (funext fun x => funext fun H1 => hg v0 D.nx D'.nx a.nx x σ H1 h)
theorem fr_if {c : TT} {t u : TS} (ht : FrS t) (hu : FrS u) : FrS (tIfS c t u) := fun v0 D D' a σ H h => congrArg (c σ H) (funext fun b => funext fun H1 => by
  rw [ht v0 D D' a σ H1 h, hu v0 D D' a σ H1 h])
theorem fr_drop {te : TE} : FrS (tDrop te) := fun v0 D D' a σ H h => congrArg (te σ H) (funext fun _ => funext fun H1 => a.nx σ H1 h)
theorem fr_ret {te : TE} : FrS (tRet te) := fun v0 D D' a σ H h => congrArg (te σ H) a.rt
theorem fr_next : FrS tNext := fun v0 D D' a σ H h => a.nx σ H h
theorem fr_name {i : Nat} : FrG (gName (i + 1)) := fun v0 Q Q' a v σ H h => a _ H (by rw [List.getElem?_set_ne (by omega)]; exact h)
theorem fr_nil : FrGs gNil := fun v0 Q Q' a vs σ H h => by
  show (vs = [] ∧ Q σ H) = (vs = [] ∧ Q' σ H)
  rw [a σ H h]
theorem fr_cons {t : TG} {u : TGs} (ht : FrG t) (hu : FrGs u) : FrGs (gCons t u) := fun v0 Q Q' a vs σ H h => by
  show (∃ v r, vs = v :: r ∧ t v σ H fun σ' H' => u r σ' H' Q) = ∃ v r, vs = v :: r ∧ t v σ H fun σ' H' => u r σ' H' Q'
  refine congrArg _ (funext fun v => congrArg _ (funext fun r => ?_))
  rw [ht v0 (fun σ' H' => u r σ' H' Q) (fun σ' H' => u r σ' H' Q') (fun σ' H' h' => hu v0 Q Q' a r σ' H' h') v σ H h]
theorem fr_tup {K : PySem.W.Frag} {n : Nat} {t : TGs} (ht : FrGs t) : FrG (gTup K n t) := fun v0 Q Q' a v σ H h => by
  show (∃ a xs, v = .ref a ∧ SqT K H a xs ∧ xs.length = n ∧ t xs σ H Q) = ∃ a xs, v = .ref a ∧ SqT K H a xs ∧ xs.length = n ∧ t xs σ H Q'
  refine congrArg _ (funext fun b => congrArg _ (funext fun xs => ?_))
  rw [ht v0 Q Q' a xs σ H h]
theorem fr_lst {K : PySem.W.Frag} {n : Nat} {t : TGs} (ht : FrGs t) : FrG (gLst K n t) := fun v0 Q Q' a v σ H h => by
  show (∃ a xs, v = .ref a ∧ SqL K H a xs ∧ xs.length = n ∧ t xs σ H Q) = ∃ a xs, v = .ref a ∧ SqL K H a xs ∧ xs.length = n ∧ t xs σ H Q'
  refine congrArg _ (funext fun b => congrArg _ (funext fun xs => ?_))
  rw [ht v0 Q Q' a xs σ H h]
theorem fr_for1 {wi : TI} {tg : TG} {tb : TS} (hg : FrG tg) (hb : FrS tb) {v0 : Option (Option V)} {D D' : Ends} (a : Agr v0 D D') {σ : St} (h : σ[0]? = v0) {J : It} {H1 : Hp} :
    (∃ W : Nat → Nat → St → Hp → Prop, (∃ m, W 0 m σ H1) ∧ ∀ i m σ H, W i m σ H → (J.stop i H ∧ D.nx σ H) ∨ (J.go i H ∧ ∃ N : St → Hp → Prop, (∀ σ' H', N σ' H' → ∃ m', m' < m ∧ W (i + 1) m' σ' H') ∧ ∀ x H', J.yld i H x H' → tg x σ H' fun σ2 H2 => tb { D with nx := N, ct := N, bk := D.nx } σ2 H2)) →
    ∃ W : Nat → Nat → St → Hp → Prop, (∃ m, W 0 m σ H1) ∧ ∀ i m σ H, W i m σ H → (J.stop i H ∧ D'.nx σ H) ∨ (J.go i H ∧ ∃ N : St → Hp → Prop, (∀ σ' H', N σ' H' → ∃ m', m' < m ∧ W (i + 1) m' σ' H') ∧ ∀ x H', J.yld i H x H' → tg x σ H' fun σ2 H2 => tb { D' with nx := N, ct := N, bk := D'.nx } σ2 H2) := by
  rintro ⟨W, ⟨m, w0⟩, hW⟩
  refine ⟨fun i m σ H => W i m σ H ∧ σ[0]? = v0, ⟨m, w0, h⟩, fun i m σ H hw => ?_⟩
  rcases hW i m σ H hw.1 with ⟨h1, h2⟩ | ⟨h1, N, h2, h3⟩
  · exact .inl ⟨h1, by rw [← a.nx σ H hw.2]; exact h2⟩
  · refine .inr ⟨h1, fun σ' H' => N σ' H' ∧ σ'[0]? = v0, fun σ' H' n => ?_, fun x H' y => ?_⟩
    · obtain ⟨m', q1, q2⟩ := h2 σ' H' n.1
      exact ⟨m', q1, q2, n.2⟩
    · have := h3 x H' y
      refine Eq.mp (hg v0 _ _ (fun σ2 H2 h2 => hb v0 { D with nx := N, ct := N, bk := D.nx } { D' with nx := fun σ' H' => N σ' H' ∧ σ'[0]? = v0, ct := fun σ' H' => N σ' H' ∧ σ'[0]? = v0, bk := D'.nx } ⟨fun σ3 H3 h3 => ?_, a.rt, fun σ3 H3 h3 => a.nx σ3 H3 h3, fun σ3 H3 h3 => ?_⟩ σ2 H2 h2) x σ H' hw.2) this
      · exact propext ⟨fun n => ⟨n, h3⟩, fun n => n.1⟩
      · exact propext ⟨fun n => ⟨n, h3⟩, fun n => n.1⟩
theorem fr_for {wi : TI} {tg : TG} {tb : TS} (hg : FrG tg) (hb : FrS tb) : FrS (tFor wi tg tb) := fun v0 D D' a σ H h => congrArg (wi σ H) (funext fun J => funext fun H1 => propext ⟨fr_for1 (wi := wi) hg hb a h, fr_for1 (wi := wi) hg hb a.symm h⟩)
theorem gr_out {g : Gb} {p : Addr} {F0 H0 F1 H1 F2 H2 : Hp} (hp : H0 p = none) (r1 : Gr g none F0 H0 F1 H1) (r2 : Gr g (some p) F1 H1 F2 H2) : Gr g none F0 H0 F2 H2 where
  ff := r1.ff.trans r2.ff
  hh := fun a o hT hl h => r2.hh a o hT (fun z => by
    cases z
    rw [hp] at h
    cases h) (r1.hh a o hT hl h)
  wl := ⟨r2.wl.same, r2.wl.tab, r2.wl.fT, fun l hl => (by cases hl), r2.wl.one⟩
  nw := fun a o hf h => by
    by_cases hT : a = g.T
    · rw [hT]
      exact r2.wl.fT
    · exact r2.nw a o (r1.nw a o hf h) (r1.hh a o hT (fun z => nomatch z) h)
theorem ev_tell {g : Gb} {ta tb tc td te : TE} {ρ : Rho} {h : Nat} {rs : List Road} {ms : List Msg} {B : List Ent} {cut : Bool} {X0 : XK} (ha : Ev g ta ρ (.d (.int (h : Int)))) (hb : Ev g tb ρ (.d (rdsD rs))) (hc : Ev g tc ρ (.d (msgsD ms))) (hd : Ev g td ρ (.d (entsD B))) (he : Ev g te ρ (.d (.bool cut))) (ok : NewsOk h rs ms) (bo : BegOk rs ms B) (to : TellOk h rs ms B cut) :
    Ev g (tCall (spTold g) [] X0 (tCons ta (tCons tb (tCons tc (tCons td (tCons te tNil)))))) ρ (.d (.bool true)) := fun e σ F H E Q q => ea_cons ha (ea_cons hb (ea_cons hc (ea_cons hd (ea_cons he ea_nil)))) e σ F H E _ fun vs F1 H1 xs r1 rx p => by
  subst p
  rw [List.append_nil]
  exact ⟨e.lf, F1, h, rs, ms, B, cut, r1.wl, rx.args (noOwn_ok rfl), ok, bo, to, fun F' H' r2 => q _ F' H' _ (r1.step E r2) (rx_d (Dq.bl true)) rfl⟩
theorem fr_use {ts : TS} (hf : FrS ts) {D D2 : Ends} {σ : St} {H : Hp} {v0 : Option (Option V)} (h : σ[0]? = v0) (ag : Agr v0 D D2) (x : ts D2 σ H) : ts D σ H := Eq.mpr (hf v0 D D2 ag σ H h) x
theorem none_get {n i : Nat} {x : Dx} (h : (List.replicate n (Option.none : Option Dx))[i]? = some (some x)) : False := by
  rw [List.getElem?_replicate] at h
  split at h
  · cases h
  · cases h
theorem Ew.none {g : Gb} {e : En} {σ : St} {F H : Hp} (gr : Gr g e.lf e.F0 e.H0 F H) (w0 : Wl g e.lf e.F0 e.H0) {n : Nat} (hn : σ.length = n) : Ew g e σ F H (List.replicate n Option.none) := ⟨gr, w0, by rw [List.length_replicate, hn], fun i x h => (none_get h).elim, fun i j xs ys _ h => (none_get h).elim⟩
theorem st_appF {g : Gb} {Kx : PySem.W.Frag} {ρ : Rho} {po : Po} {es : List Ent} {n : Nat} {m : Msg} {rs : List Road} {t : Int} {ta tb tc td te : TE} {X0 : XK} (h11 : ρ[11]? = some (some (.own (es.map entD)))) (hn : Ev g ta ρ (.d (.int (n : Int)))) (hf : Ev g tb ρ .feed) (hr : Ev g tc ρ (.d (rdsD rs))) (hm : Ev g td ρ (.d (msgD m))) (ht : Ev g te ρ (.d (.int t))) (hrl : rs.length ≤ 12) (hml : m.1.length ≤ 6) (hz : es.length < 1000000)
    (k : ∀ row, RowOk rs row → LedOk rs m.1 row → po.nx (ρ.set 11 (some (.own ((es ++ [(n, row, t)]).map entD))))) : StP g (tDrop (tBM Kx "list" rAppend (tVar 11) (tCons (tTup (tCons ta (tCons (tCall (spOf g S__law_forest) [] X0 (tCons tb (tCons tc (tCons td tNil)))) (tCons te tNil)))) tNil))) ρ po :=
  st_appP h11 (evp_tup (PD := fun ds => ∃ row, ds = [.int (n : Int), tupN row, .int t] ∧ RowOk rs row ∧ LedOk rs m.1 row) ((eap_cons hn (eap_cons (ev_call (P := fun x => ∃ row, x = .d (tupN row) ∧ RowOk rs row ∧ LedOk rs m.1 row) (ea_cons hf (ea_cons hr (ea_cons hm ea_nil))) ⟨rs, m, rfl, hrl, hml, fun row r1 r2 => ⟨row, rfl, r1, r2⟩⟩) (eap_cons ht ea_nil))).imp fun xs ⟨y, ys, e1, e2, y2, ys2, e3, ⟨row, e4, r1, r2⟩, y3, ys3, e5, e6, e7⟩ => ⟨[.int (n : Int), tupN row, .int t], by rw [e1, e2, e3, e4, e5, e6, e7]; rfl, by simp, row, rfl, r1, r2⟩) fun ds ⟨row, e, r1, r2⟩ => ⟨.tuple ds, rfl, by rw [List.length_map]; exact hz, by
    have := k row r1 r2
    rw [List.map_append] at this
    rw [e]
    exact this⟩)
abbrev N_law : List Str := ["_law_script", "_law_k", "_law_feed_here", "_law_many", "_law_roads", "_law_messages", "_law_news_here", "_law_word", "_law_paper", "_law_turn", "_law_begun", "_law_entries", "_law_number", "_law_message_here", "_law_half"]
abbrev ps_law : List Str := ["_law_script"]
theorem sc_law : FnScope N_law ps_law (defScope slaw) := ⟨rfl, rfl, rfl, by decide +kernel, rfl, by decide +kernel, by decide +kernel⟩
theorem nd_law : N_law.Nodup := sc_law.nd
theorem bd_law : BindH "law" "law" ps_law slaw := fun _ _ _ _ _ _ us hl => match us, hl with | [_], _ => rfl
def spLaw (g : Gb) : Sp := fun vs H Q _ => ∃ (F : Hp) (a : Addr) (ns : List Int), Wl g none F H ∧ vs = [.ref a] ∧ SqL g.K H a (ns.map V.int) ∧ ns.length ≤ 1000 ∧ ∀ H', Q (.bl true) H'
theorem ok_law {P : Program} {w : World} {mg : Str → Option Value} {base : Heap} {g : Gb} (c : Txt g mg base) : GFk P w g.K mg base 9 "law" ps_law (spLaw g) := by
  have tx := txt_tx c
  refine GFk.raw (h_law c) sc_law bd_law (fun vs H Q E h => ?_) fun cdv A outer s H E hgd hr => ⟨_, (pss_cons (ps_for PassesOwn.never rfl (pi_range1 rfl tx.range (pa_cons (pe_callB (cMax2 rfl) (by rfl) tx.max bt_max (pa_cons pe_int (pa_cons (pe_callB (cMin2 rfl) (by rfl) tx.min bt_min (pa_cons pe_int (pa_cons (pe_callB (cLen g.K) (by rfl) tx.len bt_len (pa_cons (pv 0) pa_nil)) pa_nil))) pa_nil))) pa_nil)) (pg_name (i := 1) nd_law rfl (Or.inl rfl)) (pss_cons (ps_set (i := 2) nd_law rfl (Or.inl rfl) (pe_callF (ok__law_feed c) (hr.mono (by decide)) (pa_cons (pv 0) (pa_cons (pv 1) pa_nil))))
    (pss_cons (ps_asg (pe_callF (ok__law_news c) (hr.mono (by decide)) (pa_cons (pv 2) (pa_cons pe_int (pa_cons pe_int (pa_cons pe_int pa_nil))))) (pgL g.K 3 (pgs_cons (pg_name (i := 3) nd_law rfl (Or.inl rfl)) (pgs_cons (pg_name (i := 4) nd_law rfl (Or.inl rfl)) (pgs_cons (pg_name (i := 5) nd_law rfl (Or.inl rfl)) pgs_nil)))))
    (pss_cons (ps_set (i := 6) nd_law rfl (Or.inl rfl) (pe_makeC g.K (ok_News___init__ c) (mk_News c) (gl_News c) (hr.mono (by decide)) (pa_cons (pe_makeC g.K (ok_Net___init__ c) (mk_Net c) (gl_Net c) (hr.mono (by decide)) (pa_cons (pv 3) (pa_cons (pv 4) pa_nil))) (pa_cons (pv 5) pa_nil))))
    (pss_cons (ps_asg (pe_callF (ok_plan c) (hr.mono (by decide)) (pa_cons (pv 6) pa_nil)) (pgT g.K 2 (pgs_cons (pg_name (i := 7) nd_law rfl (Or.inl rfl)) (pgs_cons (pg_name (i := 8) nd_law rfl (Or.inl rfl)) pgs_nil))))
    (pss_cons (ps_if (pt_cmpR op_eq (pv 7) pe_str (nomark _)) (pss_one (ps_for PassesOwn.never rfl (pi_range1 rfl tx.range (pa_cons pe_int pa_nil)) (pg_name (i := 9) nd_law rfl (Or.inl rfl)) (pss_cons (ps_set (i := 10) nd_law rfl (Or.inl rfl) (pe_callF (ok__law_begun_of c) (hr.mono (by decide)) (pa_cons (pv 2) (pa_cons (pv 4) (pa_cons (pv 5) (pa_cons (pv 8) pa_nil))))))
    (pss_one (ps_if (PW.pt (pw_or (pt_not (pt_val (pe_callF (ok_is_begun c) (hr.mono (by decide)) (pa_cons (pv 6) (pa_cons (pv 10) pa_nil))))) (pw_or1 (pt_not (pt_val (pe_callG (ok__law_told_right c) hgd (hr.mono (by decide)) (pa_cons (pv 3) (pa_cons (pv 4) (pa_cons (pv 5) (pa_cons (pv 10) (pa_cons pe_bl pa_nil))))))))))) (pss_one (ps_ret pe_bl)) pss_nil))))) pss_nil)
    (pss_cons (ps_set (i := 11) nd_law rfl (Or.inl rfl) (pe_lst pa_nil))
    (pss_cons (ps_for PassesOwn.never rfl (piEnum g.K tx.enumerate (pa_cons (pv 5) pa_nil)) (pgT g.K 2 (pgs_cons (pg_name (i := 12) nd_law rfl (Or.inl rfl)) (pgs_cons (pg_name (i := 13) nd_law rfl (Or.inl rfl)) pgs_nil))) (pss_cons (ps_set (i := 14) nd_law rfl (Or.inl rfl) (pe_callB (cMax2 rfl) (by rfl) tx.max bt_max (pa_cons pe_int (pa_cons (pe_op op_fdivW (pe_ix (ixT g.K) (pv 13) pe_int (fun _ _ => rfl)) pe_int) pa_nil))))
    (pss_cons (ps_expr (pe_bm PySem.F.plainAttrs_list PySem.F.slot_list_append PySem.F.type_list_append mt_append (pv 11) (pa_cons (pe_tup (pa_cons (pv 12) (pa_cons (pe_callF (ok__law_forest c) (hr.mono (by decide)) (pa_cons (pv 2) (pa_cons (pv 4) (pa_cons (pv 13) pa_nil)))) (pa_cons (pv 14) pa_nil)))) pa_nil)))
    (pss_one (ps_if (pt_cmpR op_gt (pe_ix (ixT g.K) (pv 13) pe_int (fun _ _ => rfl)) pe_int (nomark _)) (pss_one (ps_expr (pe_bm PySem.F.plainAttrs_list PySem.F.slot_list_append PySem.F.type_list_append mt_append (pv 11) (pa_cons (pe_tup (pa_cons (pv 12) (pa_cons (pe_callF (ok__law_forest c) (hr.mono (by decide)) (pa_cons (pv 2) (pa_cons (pv 4) (pa_cons (pv 13) pa_nil)))) (pa_cons (pe_op op_sub (pe_ix (ixT g.K) (pv 13) pe_int (fun _ _ => rfl)) (pv 14)) pa_nil)))) pa_nil)))) pss_nil)))))
    (pss_one (ps_for PassesOwn.never rfl (pi_range1 rfl tx.range (pa_cons pe_int pa_nil)) (pg_name (i := 9) nd_law rfl (Or.inl rfl)) (pss_cons (ps_set (i := 10) nd_law rfl (Or.inl rfl) (pe_callF (ok__law_begun_of c) (hr.mono (by decide)) (pa_cons (pv 2) (pa_cons (pv 4) (pa_cons (pv 5) (pa_cons (pv 11) pa_nil))))))
    (pss_one (ps_if (pt_val (pe_callF (ok__law_is_begun_so c) (hr.mono (by decide)) (pa_cons (pv 4) (pa_cons (pv 5) (pa_cons (pv 10) pa_nil))))) (pss_one (ps_if (pt_not (pt_val (pe_callG (ok__law_told_right c) hgd (hr.mono (by decide)) (pa_cons (pv 3) (pa_cons (pv 4) (pa_cons (pv 5) (pa_cons (pv 10) (pa_cons pe_bl pa_nil)))))))) (pss_one (ps_ret pe_bl)) pss_nil)) pss_nil)))))))))))))
    (pss_one (ps_ret pe_bl))), ?_⟩
  · obtain ⟨F, a, ns, _, e, _⟩ := h
    rw [e]
    rfl
  rintro vs H0 Q E' ⟨F0, a, ns, w0, rfl, hsq, hl, hQ⟩
  have E0 : Ew g ⟨none, F0, H0⟩ (L2.start N_law [.ref a]) F0 H0 (List.replicate 15 none) := Ew.blank w0 _ rfl
  have evL : Ev g (fun σ H Q => (σ[0]? = some (some (.ref a)) ∧ SqL g.K H a (ns.map V.int)) → tCB (rLenS g.K) (tCons (tVar 0) tNil) σ H Q) (List.replicate 15 none) (.d (.int (ns.length : Int))) := fun e σ F H E Q q hyp => by
    obtain ⟨h1, h2⟩ := hyp
    refine ⟨.ref a, h1, a, ns.map V.int, rfl, .inl h2, ?_⟩
    rw [List.length_map]
    exact q _ F H _ (Gr.refl E.wl) (rx_d (Dq.int _)) rfl
  obtain ⟨n, hn, hn2⟩ : ∃ n : Nat, (if (if (ns.length : Int) < 2 then (ns.length : Int) else 2) > 1 then (if (ns.length : Int) < 2 then (ns.length : Int) else 2) else 1) = (n : Int) ∧ n ≤ 2 := by
    refine ⟨(if (if (ns.length : Int) < 2 then (ns.length : Int) else 2) > 1 then (if (ns.length : Int) < 2 then (ns.length : Int) else 2) else 1).toNat, ?_, ?_⟩ <;> split <;> split <;> omega
  refine raw_for (D := { nx := fun σ H => tRet (tC (V.bl true)) { nx := fun _ H' => Q V.non H', rt := Q } σ H, rt := Q }) (ts := tSeq _ _) E0 (it_rangeN (n := n) ((ev_max2 (i := 1) (j := if (ns.length : Int) < 2 then (ns.length : Int) else 2) ev_int (ev_min2 (i := 2) (j := (ns.length : Int)) ev_int evL)).is (by rw [hn])) (by omega)) (fun _ ρ σ _ _ => σ[0]? = some (some (.ref a)) ∧ ρ = List.replicate 15 none) (fun F1 H1 _ _ => ⟨rfl, rfl⟩) (fun i d ρ1 σ1 F1 H1 hd sm E1 I => ?_) (fun ρ1 σ1 F1 H1 _ _ _ => hQ H1) ⟨rfl, hsq⟩
  obtain ⟨s0, rfl⟩ := I
  obtain ⟨rfl, hi⟩ := intsTo_get hd
  refine ⟨_, _, tg_d, fun σ2 F2 H2 D' hrt g12 E2 fr hk => ?_⟩
  have q0 : σ2[0]? = some (some (.ref a)) := (fr 0 (by decide)).trans s0
  obtain ⟨v1, hv1, rx1⟩ := E2.bd 1 _ rfl
  have hv1' : v1 = .int (i : Int) := Dq.int_eq rx1
  subst hv1'
  have sq2 : SqL g.K H2 a (ns.map V.int) := sql_gr E2.gr w0 hsq
  have ln2 : σ2.length = 15 := by rw [E2.ln, List.length_set, List.length_replicate]
  refine rq_val ⟨.ref a, q0, .int (i : Int), hv1, F2, a, ns, i, E2.wl, rfl, sq2, by omega, hl, fun p x y F3 H3 gr hFp hHp hp fo => ?_⟩
  have w3 : Wl g (some p) F3 H3 := ⟨gr.wl.same, gr.wl.tab, gr.wl.fT, fun l hl => by
    cases hl
    exact ⟨hFp, x, y, hp, fo⟩, gr.wl.one⟩
  have q03 : (σ2.set 2 (some (.ref p)))[0]? = some (some (.ref a)) := by rw [List.getElem?_set_ne (by decide)]; exact q0
  have E3 : Ew g ⟨some p, F3, H3⟩ (σ2.set 2 (some (.ref p))) F3 H3 ((List.replicate 15 none).set 2 (some .feed)) := (Ew.blank w3 _ (by rw [List.length_set]; exact ln2)).put (List.getElem?_set_self (by omega)) ⟨p, rfl, rfl⟩ fun _ z => nomatch z
  show tSeq _ _ D' (σ2.set 2 (some (.ref p))) H3
  generalize σ2.set 2 (some (.ref p)) = σ3 at *
  have hp0 : H0 p = none := E2.gr.h0 hHp
  have g03 : Gr g none F0 H0 F3 H3 := E2.gr.trans w0 gr
  refine fr_use (D2 := { D' with nx := fun σ' H' => σ'[0]? = some (some (.ref a)) → D'.nx σ' H' }) ?_ q03 ⟨fun σ H h => propext ⟨fun z _ => z, fun z => z h⟩, rfl, fun _ _ _ => rfl, fun _ _ _ => rfl⟩ ?_
  · exact fr_seq (fr_asg (fr_lst (fr_cons fr_name (fr_cons fr_name (fr_cons fr_name fr_nil))))) (fr_seq (fr_asg fr_name) (fr_seq (fr_asg (fr_tup (fr_cons fr_name (fr_cons fr_name fr_nil)))) (fr_seq (fr_if (fr_for fr_name (fr_seq (fr_asg fr_name) (fr_if fr_ret fr_next))) fr_next) (fr_seq (fr_asg fr_name) (fr_seq (fr_for (fr_tup (fr_cons fr_name (fr_cons fr_name fr_nil))) (fr_seq (fr_asg fr_name) (fr_seq fr_drop (fr_if fr_drop fr_next)))) (fr_for fr_name (fr_seq (fr_asg fr_name) (fr_if (fr_if fr_ret fr_next) fr_next))))))))
  refine (?_ : StP g _ ((List.replicate 15 none).set 2 (some .feed)) ⟨fun ρ => ρ.length = 15, fun _ => False, fun _ => False, fun _ => False⟩) ⟨some p, F3, H3⟩ σ3 F3 H3 _ E3 ⟨fun σ4 F4 H4 ρ4 s4 E4 l4 h4 => hk σ4 F4 H4 _ (gr.ff.trans s4) (Ew.none (e := ⟨none, F0, H0⟩) (gr_out hp0 g03 E4.gr) w0 (E4.ln.trans l4)) ⟨h4, rfl⟩, fun _ _ _ _ _ _ z => z.elim, fun _ _ _ _ _ _ z => z.elim, fun _ _ _ _ _ _ z => z.elim⟩
  clear hk E3 E2 E1 E0 evL
  refine sq_asg (P := fun y => ∃ (h : Nat) (rs : List Road) (ms : List Msg), NewsOk h rs ms ∧ y = .d (.list [.int (h : Int), rdsD rs, msgsD ms])) (ev_call (ea_cons (ev_var rfl) (ea_cons ev_int (ea_cons ev_int (ea_cons ev_int ea_nil)))) ⟨rfl, fun h rs ms ok => ⟨h, rs, ms, ok, rfl⟩⟩) ?_
  rintro y ⟨h, rs, ms, ok, rfl⟩
  refine ⟨_, _, tg_lst (tgs_cons tg_d (tgs_cons tg_d (tgs_cons tg_d tgs_nil))) rfl, ?_⟩
  refine sq_set (x := newsX h rs ms) (ev_make (x := newsX h rs ms) (ea_cons (ev_make (x := netX h rs) (ea_cons (ev_var rfl) (ea_cons (ev_var rfl) ea_nil)) ⟨h, rs, rfl, ok.net, fun F a q => ⟨a, rfl, q⟩⟩) (ea_cons (ev_var rfl) ea_nil)) ⟨h, rs, ms, rfl, ok, fun F a q => ⟨a, rfl, q⟩⟩) ?_
  refine st_seq (M := fun ρ => ∃ (b : Bool) (c8 : PyData), ρ = [none, none, some .feed, some (.d (.int (h : Int))), some (.d (rdsD rs)), some (.d (msgsD ms)), some (newsX h rs ms), some (.d (.str (if b then "yes" else "no"))), some (.d c8), none, none, none, none, none, none] ∧ (b = true → ∃ es, c8 = entsD es ∧ PlanOk rs ms es ∧ es.length ≤ 400)) (st_asg (P := fun y => ∃ (b : Bool) (c8 : PyData), y = .d (.tuple [.str (if b then "yes" else "no"), c8]) ∧ (b = true → ∃ es, c8 = entsD es ∧ PlanOk rs ms es ∧ es.length ≤ 400)) (ev_call (ea_cons (ev_var rfl) ea_nil) ⟨h, rs, ms, rfl, ok, fun _ => ?_⟩) fun y hy => ?_) ?_
  · cases hLk : lacks h rs ms with
    | cons l L => exact .inl ⟨l, L, rfl, false, tupN l, rfl, fun z => by cases z⟩
    | nil =>
      obtain ⟨res, o1, o2, o3, o4⟩ := plan_ex ok hLk
      exact .inr ⟨rfl, res, o1, o2, true, _, rfl, fun _ => ⟨_, rfl, o3, o4⟩⟩
  · obtain ⟨b, c8, rfl, hb⟩ := hy
    exact ⟨_, _, tg_tup (tgs_cons tg_d (tgs_cons tg_d tgs_nil)) rfl, b, c8, rfl, hb⟩
  rintro ρ ⟨b, c8, rfl, hb⟩
  refine st_seq (M := fun ρ => ∃ c7 c8 c9 c10, ρ = [none, none, some .feed, some (.d (.int (h : Int))), some (.d (rdsD rs)), some (.d (msgsD ms)), some (newsX h rs ms), c7, c8, c9, c10, none, none, none, none]) (st_ifB (b := b) ((eb_test (ev_eqS (a := if b then "yes" else "no") (b := "yes") (ev_var rfl) ev_str)).is (by cases b <;> decide)) (fun hbt => ?_) fun _ => st_nx ⟨_, _, _, _, rfl⟩) ?_
  · obtain ⟨es, rfl, po, hel⟩ := hb hbt
    refine st_for (PD := fun ds => ds = intsTo 2) (it_rangeN (n := 2) (ev_n 2) (by decide)) (fun _ _ ρ => ∃ c7 c9 c10, ρ = [none, none, some .feed, some (.d (.int (h : Int))), some (.d (rdsD rs)), some (.d (msgsD ms)), some (newsX h rs ms), c7, some (.d (entsD es)), c9, c10, none, none, none, none]) (fun _ _ => ⟨_, _, _, rfl⟩) ?_ fun _ _ _ ⟨_, _, _, e⟩ => ⟨_, _, _, _, e⟩
    rintro ds j d ρ1 rfl hd2 ⟨c7, c9, c10, rfl⟩
    refine ⟨_, _, tg_name (x := .d d) d_own, ?_⟩
    refine sq_setP (P := fun y => ∃ B : List Ent, y = .d (entsD B) ∧ B.length ≤ 6 ∧ CutAll rs ms B es) (ev_call (ea_cons (ev_var rfl) (ea_cons (ev_var rfl) (ea_cons (ev_var rfl) (ea_cons (ev_var rfl) ea_nil)))) ⟨h, rs, ms, es, rfl, ok, by omega, fun e he => ?_, fun B hB hc => ⟨B, rfl, hB, hc⟩⟩) (fun y ⟨B, e, _⟩ => by rw [e]; rfl) ?_
    · obtain ⟨⟨p1, p2⟩, p3, _⟩ := po.ent e he
      exact ⟨p1, p2, fun a ha => (p3.2 a ha).1, by have := (row_small ok.net p3).2; omega⟩
    rintro y ⟨B, rfl, hB, hc⟩
    obtain ⟨bo, hL⟩ := cut_ok ok po hc hB
    exact st_ifB (b := false) ((eb_or (eb_not (eb_B (ev_call (P := fun y => y = .d (.bool true)) (ea_cons (ev_var rfl) (ea_cons (ev_var rfl) ea_nil)) ⟨h, rs, ms, B, rfl, ok, bo, rfl⟩))) fun _ => eb_not (eb_B (ev_tell (ev_var rfl) (ev_var rfl) (ev_var rfl) (ev_var rfl) ev_bl ok bo (tell_ok ok bo fun _ => hL)))).is rfl) (fun z => by cases z) fun _ => st_nx ⟨_, _, _, rfl⟩
  rintro ρ ⟨c7, c8, c9, c10, rfl⟩
  refine sq_own ?_
  refine st_seq (M := fun ρ => ∃ (es : List Ent) (c12 c13 c14 : Option Dx), ρ = [none, none, some .feed, some (.d (.int (h : Int))), some (.d (rdsD rs)), some (.d (msgsD ms)), some (newsX h rs ms), c7, c8, c9, c10, some (.own (es.map entD)), c12, c13, c14] ∧ (∀ e ∈ es, EntOk ms e ∧ RowOk rs e.2.1 ∧ LedOk rs (md ms e.1).1 e.2.1) ∧ es.length ≤ 6) (st_for (it_enumR (l := ms) (enc := msgD) ([], 0) (ev_var rfl)) (fun _ i ρ => ∃ (es : List Ent) (c12 c13 c14 : Option Dx), ρ = [none, none, some .feed, some (.d (.int (h : Int))), some (.d (rdsD rs)), some (.d (msgsD ms)), some (newsX h rs ms), c7, c8, c9, c10, some (.own (es.map entD)), c12, c13, c14] ∧ (∀ e ∈ es, EntOk ms e ∧ RowOk rs e.2.1 ∧ LedOk rs (md ms e.1).1 e.2.1) ∧ es.length ≤ 2 * i) ?_ ?_ ?_) ?_
  · rintro ds rfl
    exact ⟨[], none, none, none, rfl, fun e he => (by cases he), Nat.le_refl _⟩
  · rintro ds i d ρ1 rfl hd2 ⟨es, c12, c13, c14, rfl, hes, hel⟩
    obtain ⟨hin, rfl⟩ := range_get hd2
    have hms := ok.msg _ (md_mem hin)
    have hml : (md ms i).1.length ≤ 6 := hms.1.len ok.net.h6
    have hrl := ok.net.many
    have hfew := ok.few
    have e0 : ms.getD i ([], 0) = md ms i := rfl
    rw [e0]
    refine ⟨_, _, tg_tup (tgs_cons tg_d (tgs_cons tg_d tgs_nil)) rfl, ?_⟩
    obtain ⟨half, hh1, hh2⟩ : ∃ half : Int, half = (if (md ms i).2 / 2 > 1 then (md ms i).2 / 2 else 1) ∧ 1 ≤ half := ⟨_, rfl, by split <;> omega⟩
    refine sq_set (x := .d (.int half)) ((ev_max2 (i := 1) (j := (md ms i).2 / 2) ev_int (ev_fdivW (ev_ixTn (ds := [tupN (md ms i).1, .int (md ms i).2]) (ev_var rfl) (ev_n 1) rfl) ev_int (divW_ok (m := 2) (by decide) (by decide) (md ms i).2))).is (by rw [hh1])) ?_
    refine st_seq (M := fun ρ => ∃ row, RowOk rs row ∧ LedOk rs (md ms i).1 row ∧ ρ = [none, none, some .feed, some (.d (.int (h : Int))), some (.d (rdsD rs)), some (.d (msgsD ms)), some (newsX h rs ms), c7, c8, c9, c10, some (.own ((es ++ [(i, row, half)]).map entD)), some (.d (.int (i : Int))), some (.d (msgD (md ms i))), some (.d (.int half))]) (st_appF rfl (ev_var rfl) (ev_var rfl) (ev_var rfl) (ev_var rfl) (ev_var rfl) hrl hml (by omega) fun row r1 r2 => ⟨row, r1, r2, rfl⟩) ?_
    rintro ρ ⟨row, r1, r2, rfl⟩
    have hes1 : ∀ e ∈ es ++ [(i, row, half)], EntOk ms e ∧ RowOk rs e.2.1 ∧ LedOk rs (md ms e.1).1 e.2.1 := fun e he => by
      rcases List.mem_append.mp he with z | z
      · exact hes e z
      · rw [List.mem_singleton.mp z]
        exact ⟨⟨hin, hh2⟩, r1, r2⟩
    refine st_ifB (b := decide (1 < (md ms i).2)) (eb_test (ev_gt (ev_ixTn (ds := [tupN (md ms i).1, .int (md ms i).2]) (ev_var rfl) (ev_n 1) rfl) ev_int)) (fun hgt => ?_) fun _ => st_nx ⟨es ++ [(i, row, half)], _, _, _, rfl, hes1, by rw [List.length_append, List.length_singleton]; omega⟩
    have hgt := of_decide_eq_true hgt
    refine st_appF (t := (md ms i).2 - half) rfl (ev_var rfl) (ev_var rfl) (ev_var rfl) (ev_var rfl) (ev_sub (ev_ixTn (ds := [tupN (md ms i).1, .int (md ms i).2]) (ev_var rfl) (ev_n 1) rfl) (ev_var rfl)) hrl hml (by rw [List.length_append, List.length_singleton]; omega) fun row2 r3 r4 => ⟨es ++ [(i, row, half)] ++ [(i, row2, (md ms i).2 - half)], _, _, _, rfl, fun e he => ?_, by rw [List.length_append, List.length_append, List.length_singleton, List.length_singleton]; omega⟩
    rcases List.mem_append.mp he with z | z
    · exact hes1 e z
    · rw [List.mem_singleton.mp z]
      exact ⟨⟨hin, by show 1 ≤ (md ms i).2 - half; rw [hh1]; split <;> omega⟩, r3, r4⟩
  · rintro ds ρ1 rfl ⟨es, c12, c13, c14, rfl, hes, hel⟩
    refine ⟨es, c12, c13, c14, rfl, hes, ?_⟩
    rw [List.length_map, List.length_range] at hel
    have := ok.few
    omega
  rintro ρ ⟨es, c12, c13, c14, rfl, hes, hel⟩
  refine st_freeze (i := 11) rfl ?_
  refine st_for (PD := fun ds => ds = intsTo 3) (it_rangeN (n := 3) (ev_n 3) (by decide)) (fun _ _ ρ => ∃ c9 c10, ρ = [none, none, some .feed, some (.d (.int (h : Int))), some (.d (rdsD rs)), some (.d (msgsD ms)), some (newsX h rs ms), c7, c8, c9, c10, some (.d (entsD es)), c12, c13, c14]) (fun _ _ => ⟨_, _, rfl⟩) ?_ fun _ _ _ ⟨_, _, e⟩ => by rw [e]; rfl
  rintro ds j d ρ1 rfl hd2 ⟨c9, c10, rfl⟩
  refine ⟨_, _, tg_name (x := .d d) d_own, ?_⟩
  refine sq_setP (P := fun y => ∃ B : List Ent, y = .d (entsD B) ∧ B.length ≤ 6 ∧ CutAll rs ms B es) (ev_call (ea_cons (ev_var rfl) (ea_cons (ev_var rfl) (ea_cons (ev_var rfl) (ea_cons (ev_var rfl) ea_nil)))) ⟨h, rs, ms, es, rfl, ok, by omega, fun e he => ?_, fun B hB hc => ⟨B, rfl, hB, hc⟩⟩) (fun y ⟨B, e, _⟩ => by rw [e]; rfl) ?_
  · obtain ⟨⟨p1, p2⟩, p3, _⟩ := hes e he
    exact ⟨p1, p2, fun a ha => (p3.2 a ha).1, by have := (row_small ok.net p3).2; omega⟩
  rintro y ⟨B, rfl, hB, hc⟩
  refine st_if (P1 := fun b => b = true → BegOk rs ms B) (et_B (ev_call (P := fun y => ∃ b, y = .d (.bool b) ∧ (b = true → BegOk rs ms B)) (ea_cons (ev_var rfl) (ea_cons (ev_var rfl) (ea_cons (ev_var rfl) ea_nil))) ⟨h, rs, ms, B, rfl, ok, hB, cut_ent hc hes, fun b hb => ⟨b, rfl, hb⟩⟩)) (fun hb => ?_) fun _ => st_nx ⟨_, _, rfl⟩
  have bo := hb rfl
  exact st_ifB (b := false) ((eb_not (eb_B (ev_tell (ev_var rfl) (ev_var rfl) (ev_var rfl) (ev_var rfl) ev_bl ok bo (tell_ok ok bo fun z => by cases z)))).is rfl) (fun z => by cases z) fun _ => st_nx ⟨_, _, rfl⟩
end TB
set_option Elab.async false
set_option linter.all false
set_option autoImplicit false
set_option maxRecDepth 100000
set_option maxHeartbeats 4000000
/-! the end: the caller's call of the law, one table of code objects -/
namespace TB
open PySem PySem.Spec PyProof.Rows L2
/-- the abstract heap at the law's call: the one table, and the script where it is no thing of the head -/
def hp0 (K : PySem.W.Frag) (T a : Addr) (us : List Value) (xs : List V) : Hp := fun b =>
  if b = T then some (.tbl #[]) else if b = a ∧ K.lookup a = none then some (.frz { cls := .type "list", data := .seq us.toArray } (.lst xs)) else none
section
variable {K : PySem.W.Frag} {T a b : Addr} {us : List Value} {xs : List V}
theorem hp0_T : hp0 K T a us xs T = some (.tbl #[]) := if_pos rfl
theorem hp0_none (h1 : b ≠ T) (h2 : b ≠ a) : hp0 K T a us xs b = none := by
  unfold hp0
  rw [if_neg h1, if_neg fun z => h2 z.1]
theorem hp0_cases (o : HO) (h : hp0 K T a us xs b = some o) : (b = T ∧ o = .tbl #[]) ∨ (b ≠ T ∧ b = a ∧ K.lookup a = none ∧ o = .frz { cls := .type "list", data := .seq us.toArray } (.lst xs)) := by
  unfold hp0 at h
  by_cases h1 : b = T
  · rw [if_pos h1] at h
    cases h
    exact .inl ⟨h1, rfl⟩
  · rw [if_neg h1] at h
    by_cases h2 : b = a ∧ K.lookup a = none
    · rw [if_pos h2] at h
      cases h
      exact .inr ⟨h1, h2.1, h2.2, rfl⟩
    · rw [if_neg h2] at h
      cases h
end
theorem call_law {P : Program} {w : World} {K : PySem.W.Frag} {mg mb : Str → Option Value} {fad a c T : Addr} {s : Shared} {us : List Value} {ns : List Int}
    (KX : K.In s.heap) (hns : s.heap.Ns mainGlobals mg) (hb : s.heap.Ns builtinsNs mb) (hbb : ∀ x : Str, x ≠ "__name__" → mb x = bootBuiltins x) (hlim : s.heap.NoLimit) (hgen : s.gens = #[])
    (hT : s.heap.get? T = some { cls := .none, data := .fields #[] }) (nT : K.lookup T = none) (hC : PySem.W.codeHdIn K c T = true) (hbm : ∃ (bm : Addr) (u : Obj), mg "__builtins__" = some (.ref bm) ∧ bm ≠ builtinsNs ∧ s.heap.get? bm = some u ∧ u.cls = .type "module" ∧ u.dict = some builtinsNs ∧ u.data = .plain)
    (ha : s.heap.get? a = some { cls := .type "list", data := .seq us.toArray }) (hi : IntsAre us ns) (hl : ns.length ≤ 63) (hfa : mg "law" = some (.ref fad))
    (F : ∀ bs : Heap, K.In bs → bs.Ns mainGlobals mg → LamX.TabB bs mg c T → GFk P w K mg bs 9 "law" ps_law (spLaw ⟨K, T, "all_lots.<locals>.<lambda>"⟩)) :
    codeAny (model P w) callerA (.call (.ref fad) ⟨[.ref a], []⟩) (fun r s2 => r = .ok (.ret (.bool true)) ∧ OldK s.heap s2.heap ∧ s2.os = s.os ∧ AllBare s2.gens) s := by
  have vals := vals_ints hi
  have hlen := hi.length
  have Cd : PySem.W.CodeHd s.heap c T := PySem.W.codeHd_of_K KX hC
  have aT : a ≠ T := fun z => by
    rw [z, hT] at ha
    have := congrArg Obj.data (Option.some.inj ha)
    cases this
  generalize hH : hp0 K T a us (ns.map V.int) = H
  have HT : H T = some (.tbl #[]) := by rw [← hH]; exact hp0_T
  have cs : ∀ {b : Addr} (o : HO), H b = some o → (b = T ∧ o = .tbl #[]) ∨ (b ≠ T ∧ b = a ∧ K.lookup a = none ∧ o = .frz { cls := .type "list", data := .seq us.toArray } (.lst (ns.map V.int))) := fun o h => hp0_cases o (by rw [hH]; exact h)
  have noH : ∀ {b : Addr}, b ≠ T → b ≠ a → H b = none := fun h1 h2 => by rw [← hH]; exact hp0_none h1 h2
  -- an object that is no list and no table stands in the base
  have inB : ∀ {b : Addr} {o : Obj}, s.heap.get? b = some o → (∀ vs n, o.data ≠ .seq vs n) → o.data ≠ .fields #[] → H b = none := fun {b o} e h1 h2 => noH (fun z => by
    rw [z, hT] at e
    cases e
    exact h2 rfl) fun z => by
    rw [z, ha] at e
    cases e
    exact h1 _ _ rfl
  have kB : ∀ {b : Addr} {o : Obj}, s.heap.get? b = some o → H b = none → (hidT s.heap H).get? b = some o := fun e n => hidT_get e n
  have nsB : ∀ {b : Addr} {m : Str → Option Value}, s.heap.Ns b m → (hidT s.heap H).Ns b m := fun {b m} ⟨o, es, ep, e, d, r⟩ => ⟨o, es, ep, kB e (inB e (fun vs n z => by rw [d] at z; cases z) fun z => by rw [d] at z; cases z), d, r⟩
  have KB : K.In (hidT s.heap H) := fun b o e => kB (KX b o e) (by
    cases q : H b with
    | none => rfl
    | some u =>
      rcases cs u q with ⟨z, _⟩ | ⟨_, z, nl, _⟩
      · rw [z, nT] at e
        cases e
      · rw [z, nl] at e
        cases e)
  have MB : L2.Mod K mg (hidT s.heap H) := ⟨KB, nsB hns, ⟨mb, nsB hb, hbb⟩, by
    obtain ⟨mc, l1, l2⟩ := hlim
    exact ⟨mc, nsB l1, l2⟩⟩
  have tabB : LamX.TabB (hidT s.heap H) mg c T := by
    refine ⟨PySem.W.codeHd_of_K KB hC, ?_, fun z => ?_⟩
    · obtain ⟨bm, u, b1, b2, b3, b4, b5, b6⟩ := hbm
      have nG : bm ≠ mainGlobals := fun z => by
        obtain ⟨o, es, ep, e, hd, _⟩ := hns
        rw [z, e] at b3
        cases b3
        rw [hd] at b6
        cases b6
      have nP : bm ≠ T := fun z => by
        rw [z, hT] at b3
        cases b3
        cases b6
      exact ⟨bm, u, b1, b2, nG, nP, kB b3 (inB b3 (fun vs n z => by rw [b6] at z; cases z) fun z => by rw [b6] at z; cases z), b4, b5, b6⟩
    · obtain ⟨o, es, ep, e, hd, _⟩ := hns
      rw [z, hT] at e
      cases e
      cases hd
  have hok : HOk P w H s.heap := fun b u q => by
    rcases cs u q with ⟨z, rfl⟩ | ⟨_, z, _, rfl⟩
    · rw [z]
      exact hT
    · rw [z]
      exact ⟨ha, by rw [List.length_map]; exact Nat.le_trans hl (by decide), us, _, vals, ha⟩
  have sq : SqL K H a (ns.map V.int) := by
    cases hk : K.lookup a with
    | some o =>
      have e := KX a o hk
      rw [ha] at e
      cases e
      exact .inr ⟨_, us.toArray, _, hk, rfl, rfl, rfl, by rw [List.size_toArray, hlen]; exact Nat.le_trans hl (by decide), by simpa using vals⟩
    | none =>
      refine .inl (.inr ⟨{ cls := .type "list", data := .seq us.toArray }, ?_⟩)
      rw [← hH]
      unfold hp0
      rw [if_neg aT, if_pos ⟨rfl, hk⟩]
  have e0 : Env0 P w K mg (hidT s.heap H) callerA [] s H := ⟨rfl, MB, fun b o e => of_hidT e, Nat.le_of_eq (hidT_size _ _), trivial, fun b hb => absurd (show b ∈ ([] : List Addr) from hb) (by simp), hok, .of_eq hgen⟩
  have G := F _ KB (nsB hns) tabB
  obtain ⟨fd, G1, G2⟩ := G.ex
  have hga : fad = He.ga K "law" := by
    have := G.gl
    rw [hfa] at this
    cases this
    rfl
  have wl : Wl ⟨K, T, "all_lots.<locals>.<lambda>"⟩ none (fun _ => none) H := ⟨(fun b u z => by cases z), ⟨#[], HT, trivial, (fun pos cv z => by cases z)⟩, rfl, (fun l z => by cases z), fun b ps q => by
    rcases cs _ q with ⟨z, _⟩ | ⟨_, _, _, z⟩
    · exact z
    · cases z⟩
  rw [hga]
  refine codeAny_mono (G1.run callerA [] s H ⟨[.ref a], []⟩ [.ref a] [.ref a] (fun v _ => v = .bl true) (fun _ _ _ => False) rfl ⟨rfl, by decide, by decide⟩ e0 (G2 s [.ref a] KX rfl) (.cons rfl .nil) ⟨fun _ => none, a, ns, wl, rfl, sq, by omega, fun _ => rfl⟩) fun r s2 h => ?_
  cases r with
  | error e => exact False.elim h
  | ok fl =>
    cases fl with
    | next => exact False.elim h
    | brk => exact False.elim h
    | cont => exact False.elim h
    | ret u =>
      obtain ⟨v, H2, os, bare, un, hok2, rel, rfl⟩ := h
      have hu : u = Value.bool true := rel
      have keep : ∀ b o, b ≠ T → s.heap.get? b = some o → s2.heap.get? b = some o := fun b o nb e => by
        cases q : H b with
        | none => exact un.keep b o e q (fun z => absurd (show b ∈ ([] : List Addr) from z) (by simp)) (by simp)
        | some u =>
          rcases cs u q with ⟨z, _⟩ | ⟨_, z, _, rfl⟩
          · exact absurd z nb
          · obtain ⟨e1, _⟩ := hok b _ q
            obtain ⟨e2, _⟩ := hok2 b _ (un.frzs b _ _ q)
            rw [e] at e1
            cases e1
            exact e2
      obtain ⟨more, hm⟩ := un.tbls T #[] HT
      have tab2 : s2.heap.get? T = some { cls := .none, data := .fields (#[] ++ more) } := hok2 T _ hm
      refine ⟨by rw [hu], ⟨fun b o e => ?_, fun b o e => ?_⟩, os, bare⟩
      · by_cases z : b = T
        · rw [z] at e ⊢
          rw [hT] at e
          cases e
          exact .inr (.inl ⟨(Cd.tab hT).isCodeTable, rfl, #[], more, rfl, tab2⟩)
        · exact .inl (keep b o z e)
      · by_cases z : b = T
        · rw [z]
          exact ⟨_, tab2⟩
        · exact ⟨o, keep b o z e⟩
theorem ok_law2 {P : Program} {w : World} {K : PySem.W.Frag} {mg : Str → Option Value} {bs h : Heap} (c : He.SaysX fa fn [] tf exq w h K) (KB : K.In bs) (nsB : bs.Ns mainGlobals mg) (tb : LamX.TabB bs mg (He.cT K ("all_lots", none)).1 (He.cT K ("all_lots", none)).2) : GFk P w K mg bs 9 "law" ps_law (spLaw ⟨K, (He.cT K ("all_lots", none)).2, "all_lots.<locals>.<lambda>"⟩) :=
  ok_law (g := ⟨K, (He.cT K ("all_lots", none)).2, "all_lots.<locals>.<lambda>"⟩) ⟨c.t.d, KB, nsB, tb, rfl⟩
end TB
set_option Elab.async false
set_option linter.all false
set_option maxRecDepth 100000
set_option maxHeartbeats 4000000
open PySem PySem.W PySem.Calls PyProof.Rows
theorem PySem.Challenge.cw_treesabreast_k26_whole_finishes_holds : PySem.Challenge.rw_treesabreast_k26_whole_finishes.Holds := by
  w_on; o_law
  refine HandSHeadRun.head_any (r := TB.Rw) (q := view TB.Rw.prog [83]) (H := TB.hk) (ob := TB.ob) (M := 6000) (loose := TB.loose) (d := HandSHeadRun.topDef TB.Rw.prog 83) (kwd := []) TB.ob_eq
    (by kernel_rfl) (fun s => by kernel_rfl) TB.run (by kernel_rfl) (by kernel_rfl) (by kernel_rfl) (by rfl) (by first | assumption | decide +kernel) (by decide +kernel) ⟨rfl, rfl, rfl, rfl, rfl, by decide +kernel⟩ ?hw ?hc
  case hw => w_witness2
  case hc =>
    refine Att.attach_callB (l := PySem.Challenge.rw_treesabreast_k26_whole_finishes) (n := 63) rfl (by kernel_rfl) fun w s0 s1 mg mb fad o pm cd doc a us ns G Y ho hd hcd hmg0 ha hi hl _ hgen => ?_
    obtain ⟨K, KX, c⟩ := Y
    have hmg : mg ("law" : PySem.Str) = some (.ref fad) := by
      have e : (HandSHeadRun.topDef TB.Rw.prog 83).name = ("law" : PySem.Str) := by kernel_rfl
      rw [← e]
      exact hmg0
    have hm : (("all_lots", none) : He.Defn) ∈ TB.tf := List.mem_cons_self
    exact TB.call_law (c := (He.cT K ("all_lots", none)).1) (T := (He.cT K ("all_lots", none)).2) KX G.T.g G.T.b G.T.builtins G.T.nolimit hgen (c.empty _ hm) (c.out _ hm) (c.hd _ hm) G.T.bmain ha hi hl hmg fun bs KB nsB tb => TB.ok_law2 c KB nsB tb
