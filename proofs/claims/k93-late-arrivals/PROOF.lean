import PyProof.Rows.All
import Wide.All
import OpenK.AllK
import Wide.FinOn
import KE.KStateDown
import HandS.ForMost
import HandS.More
import HandS.Exc
import HandS.Defaults
import HandS.Head0
import HandS.Head1
import HandS.Head2
import HandS.HeadEnd
import HandS.HeadHook1
import HandS.HeadHook2
import HandS.HeadHook3
import PySem.Challenge.RW_tallyplans_k93_whole_late_arrivals_of_a
import HandS.Flow
import HandS.Style
import HandS.FStr
import HandS.IsInst
import HandS.OwnEq
import HandS.DictComp
import HandS.SortKw
import HandS.TupAny
import HandS.Walk
import HandS.Finally
import HandS.Zip
import HandS.WideBits
import HandS.RaiseMore
import HandS.Steps
import HandS.Conv
import PyProof.CollectIter
import PyProof.WalksMore
import PyProof.Rows.TupIter
import KE.GoesMore
import KE.GoesEnum
import KE.GoesZip
import PyProof.Draws
import HandS.Small
import HandS.WordsDict
import PyProof.Rows.StrSplitJoin
import PyProof.Rows.StrReprJoin
import PyProof.StrBlock2
import HandS.NoneIn
import PyProof.NeKinds
set_option Elab.async false
set_option linter.all false
set_option maxRecDepth 100000
set_option maxHeartbeats 0
namespace Kx
open PySem PySem.Spec PyProof.Rows L2
def top (i : Nat) : Stmt := PySem.Challenge.pw_tallyplans_k93_whole_late_arrivals_of_a.main.body.getD i (.Pass ⟨0, 0, 0, 0⟩)
abbrev s_is_whole : Stmt := top 24
abbrev s_is_from : Stmt := top 25
abbrev s_is_between : Stmt := top 26
abbrev s_is_capacity : Stmt := top 27
abbrev s_is_name : Stmt := top 28
abbrev s_is_run : Stmt := top 29
abbrev s_first_invalid : Stmt := top 31
abbrev s_check_capacity : Stmt := top 32
abbrev s_check_name : Stmt := top 33
abbrev s_table_of : Stmt := top 34
abbrev s_counts_of_table : Stmt := top 35
abbrev s_first_no_order : Stmt := top 37
abbrev s_check_order : Stmt := top 38
abbrev s_counts_text : Stmt := top 40
abbrev s_Summary___init__ : Stmt := inClass (top 42) 0
abbrev s_Summary___eq__ : Stmt := inClass (top 42) 1
abbrev s_Summary___len__ : Stmt := inClass (top 42) 2
abbrev s_Summary___str__ : Stmt := inClass (top 42) 3
abbrev s_Summary___repr__ : Stmt := inClass (top 42) 4
abbrev s_Summary_arrive : Stmt := inClass (top 42) 8
abbrev s_Summary_reductions : Stmt := inClass (top 42) 10
abbrev s_Summary_merged : Stmt := inClass (top 42) 11
abbrev s_lowered : Stmt := top 43
abbrev s_arrived : Stmt := top 44
abbrev s_played : Stmt := top 45
abbrev s_is_summary : Stmt := top 46
abbrev s_check_summary : Stmt := top 47
abbrev s_is_action : Stmt := top 50
abbrev s_check_actions : Stmt := top 51
abbrev s_check_index : Stmt := top 52
abbrev s_check_run : Stmt := top 53
abbrev s_check_same : Stmt := top 54
abbrev s_more_rows : Stmt := top 55
abbrev s_state_after : Stmt := top 56
abbrev s_current_of : Stmt := top 57
abbrev s_Collector___init__ : Stmt := inClass (top 58) 0
abbrev s_Collector___eq__ : Stmt := inClass (top 58) 1
abbrev s_Collector___len__ : Stmt := inClass (top 58) 2
abbrev s_Collector___str__ : Stmt := inClass (top 58) 3
abbrev s_Collector___repr__ : Stmt := inClass (top 58) 4
abbrev s_Collector_start : Stmt := inClass (top 58) 5
abbrev s_Collector_entries : Stmt := inClass (top 58) 6
abbrev s_Collector_current : Stmt := inClass (top 58) 7
abbrev s_Collector_history : Stmt := inClass (top 58) 8
abbrev s_Collector_arrived : Stmt := inClass (top 58) 9
abbrev s_Collector_change : Stmt := inClass (top 58) 10
abbrev s_Collector_do : Stmt := inClass (top 58) 11
abbrev s_Collector_arrive : Stmt := inClass (top 58) 12
abbrev s_Collector_merge : Stmt := inClass (top 58) 13
abbrev s_Collector_insert_at : Stmt := inClass (top 58) 14
abbrev s_Collector_restart : Stmt := inClass (top 58) 16
abbrev s_Collector_do_all : Stmt := inClass (top 58) 17
abbrev s_Collector_preview : Stmt := inClass (top 58) 18
abbrev s_Collector_undo : Stmt := inClass (top 58) 19
abbrev s_late_change : Stmt := top 60
abbrev s__law_cell : Stmt := top 62
abbrev s__law_pool : Stmt := top 63
abbrev s__law_draw : Stmt := top 64
abbrev s__law_words : Stmt := top 65
abbrev s__law_often : Stmt := top 66
abbrev s__law_bag : Stmt := top 67
abbrev s__law_path : Stmt := top 68
abbrev s__law_run : Stmt := top 69
abbrev s__law_played : Stmt := top 70
abbrev s__law_flat : Stmt := top 71
abbrev s__law_held : Stmt := top 72
abbrev s__law_merged : Stmt := top 73
abbrev s__law_text : Stmt := top 74
abbrev s__law_now : Stmt := top 75
abbrev s__law_plain : Stmt := top 76
abbrev s__law_done : Stmt := top 77
abbrev s__law_deed : Stmt := top 78
abbrev s__law_deeds : Stmt := top 79
abbrev s__law_rows_right : Stmt := top 80
abbrev s__law_told_right : Stmt := top 81
abbrev s__law_drawn : Stmt := top 82
abbrev s__law_change : Stmt := top 83
abbrev s__law_changed : Stmt := top 84
abbrev s__law_runs_right : Stmt := top 85
abbrev s__law_merges_right : Stmt := top 86
abbrev s__law_right : Stmt := top 87
abbrev s_law : Stmt := top 88
end Kx
set_option Elab.async false
set_option linter.all false
set_option maxRecDepth 100000
set_option maxHeartbeats 0
namespace Kx
open PySem PySem.Spec PyProof.Rows L2
/-! ### the head: the part of the heap that the defs lean on, read by names; forced once -/
def nsA (g : Addr → Option Obj) (d : Addr) (x : Str) : Addr := match g d with
  | some ⟨_, _, .dict es _, _⟩ => (match es.toList.find? (·.key.isStr x) with
    | some ⟨_, _, .ref a⟩ => a
    | _ => 0)
  | _ => 0
def tupAs (g : Addr → Option Obj) (a : Addr) : List Addr := a :: (match g a with
  | some ⟨_, _, .seq its _, _⟩ => its.toList.flatMap He.refV
  | _ => [])
def fnAs (g : Addr → Option Obj) (a : Addr) : List Addr := match g a with
  | some ⟨_, _, .func fd, _⟩ => a :: (He.refV fd.code ++ ((He.refV fd.defaults).flatMap (tupAs g) ++ He.refV fd.kwdefaults))
  | _ => []
def clsAs (g : Addr → Option Obj) (a : Addr) (ms : List Str) : List Addr := match g a with
  | some ⟨_, _, .cls cd, _⟩ => a :: cd.ns :: ms.flatMap fun m => fnAs g (nsA g cd.ns m)
  | _ => []
def fnNames : List Str := (["is_whole", "is_from", "is_between", "is_capacity", "is_name", "is_run", "first_invalid", "check_capacity", "check_name", "table_of", "counts_of_table", "first_no_order", "check_order", "counts_text", "lowered"] : List Str) ++ (["arrived", "played", "is_summary", "check_summary", "is_action", "check_actions", "check_index", "check_run", "check_same", "more_rows", "state_after", "current_of", "late_change", "_law_cell", "_law_pool"] : List Str) ++ (["_law_draw", "_law_words", "_law_often", "_law_bag", "_law_path", "_law_run", "_law_played", "_law_flat", "_law_held", "_law_merged", "_law_text", "_law_now", "_law_plain", "_law_done", "_law_deed"] : List Str) ++ (["_law_deeds", "_law_rows_right", "_law_told_right", "_law_drawn", "_law_change", "_law_changed", "_law_runs_right", "_law_merges_right", "_law_right", "law"] : List Str)
def sumMs : List Str := (["__init__", "__eq__", "__len__", "__str__", "__repr__", "arrive", "reductions", "merged"] : List Str)
def colMs : List Str := (["__init__", "__eq__", "__len__", "__str__", "__repr__", "start", "entries", "current", "history", "arrived", "change", "do", "arrive", "merge", "insert_at"] : List Str) ++ (["restart", "do_all", "preview", "undo"] : List Str)
def asM (g : Addr → Option Obj) : List Addr := mainGlobals :: nsA g mainGlobals "ACTION_SIZES" :: (clsAs g (nsA g mainGlobals "Summary") sumMs ++ (clsAs g (nsA g mainGlobals "Collector") colMs ++ fnNames.flatMap fun x => fnAs g (nsA g mainGlobals x)))
def forceK {α : Type} : PySem.W.Frag → (PySem.W.Frag → α) → α
  | [], k => k []
  | (a, o) :: r, k => HandSHeadRun.frNat a fun a => forceK r fun r => k ((a, o) :: r)
theorem forceK_eq {α : Type} : ∀ (K : PySem.W.Frag) (k : PySem.W.Frag → α), forceK K k = k K
  | [], _ => rfl
  | (a, o) :: r, k => by
    unfold forceK
    rw [HandSHeadRun.frNat_eq, forceK_eq r]
def exL (K : PySem.W.Frag) : List Bool := [decide (PySem.W.findIn K (.ref (He.ga K "Summary")) "__class__" = some (some (.builtin "object.__class__"))),
  decide (PySem.W.findIn K (.ref (He.ga K "Summary")) "__ne__" = some (some (.builtin "object.__ne__"))),
  decide (PySem.W.mroIn K (He.ga K "Summary") (.type "object") = some true),
  decide (PySem.W.kitOne K (.type "tuple") (.ref (He.ga K "Summary")) = some false),
  decide (PySem.W.kitOne K (.type "list") (.ref (He.ga K "Summary")) = some false),
  decide (PySem.W.kitOne K (.ref (He.ga K "Summary")) (.ref (He.ga K "Summary")) = some true),
  decide (PySem.W.kitOne K (.ref (He.ga K "Summary")) (.type "list") = some false),
  decide (PySem.W.kitOne K (.ref (He.ga K "Summary")) (.type "tuple") = some false),
  decide (PySem.W.findIn K (.ref (He.ga K "Collector")) "__class__" = some (some (.builtin "object.__class__"))),
  decide (PySem.W.findIn K (.ref (He.ga K "Collector")) "__ne__" = some (some (.builtin "object.__ne__"))),
  decide (PySem.W.mroIn K (He.ga K "Collector") (.type "object") = some true),
  decide (PySem.W.kitOne K (.type "tuple") (.ref (He.ga K "Collector")) = some false),
  decide (PySem.W.kitOne K (.type "list") (.ref (He.ga K "Collector")) = some false),
  decide (PySem.W.kitOne K (.ref (He.ga K "Collector")) (.ref (He.ga K "Collector")) = some true),
  decide (PySem.W.kitOne K (.ref (He.ga K "Collector")) (.type "list") = some false),
  decide (PySem.W.kitOne K (.ref (He.ga K "Collector")) (.type "tuple") = some false),
  (match K.lookup (He.dflAt ("Summary", some "__init__") 0 K) with | some ⟨.type "tuple", _, .seq its _, _⟩ => its.isEmpty | _ => false),
  He.valsB K (He.ga K "ACTION_SIZES") [("arrive", .int 3), ("merge", .int 2), ("insert", .int 4), ("remove", .int 2), ("start", .int 2)]]
def exB (K : PySem.W.Frag) : Bool := (exL K).all id
def d_is_whole : He.DefD := ⟨("is_whole", none), "is_whole", "is_whole", defArgs s_is_whole, defBody s_is_whole, defScope s_is_whole, [], []⟩
def d_is_from : He.DefD := ⟨("is_from", none), "is_from", "is_from", defArgs s_is_from, defBody s_is_from, defScope s_is_from, [], []⟩
def d_is_between : He.DefD := ⟨("is_between", none), "is_between", "is_between", defArgs s_is_between, defBody s_is_between, defScope s_is_between, [], []⟩
def d_is_capacity : He.DefD := ⟨("is_capacity", none), "is_capacity", "is_capacity", defArgs s_is_capacity, defBody s_is_capacity, defScope s_is_capacity, [], []⟩
def d_is_name : He.DefD := ⟨("is_name", none), "is_name", "is_name", defArgs s_is_name, defBody s_is_name, defScope s_is_name, [], []⟩
def d_is_run : He.DefD := ⟨("is_run", none), "is_run", "is_run", defArgs s_is_run, defBody s_is_run, defScope s_is_run, [], []⟩
def d_first_invalid : He.DefD := ⟨("first_invalid", none), "first_invalid", "first_invalid", defArgs s_first_invalid, defBody s_first_invalid, defScope s_first_invalid, [], []⟩
def d_check_capacity : He.DefD := ⟨("check_capacity", none), "check_capacity", "check_capacity", defArgs s_check_capacity, defBody s_check_capacity, defScope s_check_capacity, [], []⟩
def d_check_name : He.DefD := ⟨("check_name", none), "check_name", "check_name", defArgs s_check_name, defBody s_check_name, defScope s_check_name, [], []⟩
def d_table_of : He.DefD := ⟨("table_of", none), "table_of", "table_of", defArgs s_table_of, defBody s_table_of, defScope s_table_of, [], []⟩
def d_counts_of_table : He.DefD := ⟨("counts_of_table", none), "counts_of_table", "counts_of_table", defArgs s_counts_of_table, defBody s_counts_of_table, defScope s_counts_of_table, [], []⟩
def d_first_no_order : He.DefD := ⟨("first_no_order", none), "first_no_order", "first_no_order", defArgs s_first_no_order, defBody s_first_no_order, defScope s_first_no_order, [], []⟩
def d_check_order : He.DefD := ⟨("check_order", none), "check_order", "check_order", defArgs s_check_order, defBody s_check_order, defScope s_check_order, [], []⟩
def d_counts_text : He.DefD := ⟨("counts_text", none), "counts_text", "counts_text", defArgs s_counts_text, defBody s_counts_text, defScope s_counts_text, [], []⟩
def d_Summary___init__ : He.DefD := ⟨("Summary", some "__init__"), "__init__", "Summary.__init__", defArgs s_Summary___init__, defBody s_Summary___init__, defScope s_Summary___init__, [.adr (He.dflAt ("Summary", some "__init__") 0)], []⟩
def d_Summary___eq__ : He.DefD := ⟨("Summary", some "__eq__"), "__eq__", "Summary.__eq__", defArgs s_Summary___eq__, defBody s_Summary___eq__, defScope s_Summary___eq__, [], []⟩
def d_Summary___len__ : He.DefD := ⟨("Summary", some "__len__"), "__len__", "Summary.__len__", defArgs s_Summary___len__, defBody s_Summary___len__, defScope s_Summary___len__, [], []⟩
def d_Summary___str__ : He.DefD := ⟨("Summary", some "__str__"), "__str__", "Summary.__str__", defArgs s_Summary___str__, defBody s_Summary___str__, defScope s_Summary___str__, [], []⟩
def d_Summary___repr__ : He.DefD := ⟨("Summary", some "__repr__"), "__repr__", "Summary.__repr__", defArgs s_Summary___repr__, defBody s_Summary___repr__, defScope s_Summary___repr__, [], []⟩
def d_Summary_arrive : He.DefD := ⟨("Summary", some "arrive"), "arrive", "Summary.arrive", defArgs s_Summary_arrive, defBody s_Summary_arrive, defScope s_Summary_arrive, [.int 1], []⟩
def d_Summary_reductions : He.DefD := ⟨("Summary", some "reductions"), "reductions", "Summary.reductions", defArgs s_Summary_reductions, defBody s_Summary_reductions, defScope s_Summary_reductions, [], []⟩
def d_Summary_merged : He.DefD := ⟨("Summary", some "merged"), "merged", "Summary.merged", defArgs s_Summary_merged, defBody s_Summary_merged, defScope s_Summary_merged, [], []⟩
def d_lowered : He.DefD := ⟨("lowered", none), "lowered", "lowered", defArgs s_lowered, defBody s_lowered, defScope s_lowered, [], []⟩
def d_arrived : He.DefD := ⟨("arrived", none), "arrived", "arrived", defArgs s_arrived, defBody s_arrived, defScope s_arrived, [], []⟩
def d_played : He.DefD := ⟨("played", none), "played", "played", defArgs s_played, defBody s_played, defScope s_played, [], []⟩
def d_is_summary : He.DefD := ⟨("is_summary", none), "is_summary", "is_summary", defArgs s_is_summary, defBody s_is_summary, defScope s_is_summary, [], []⟩
def d_check_summary : He.DefD := ⟨("check_summary", none), "check_summary", "check_summary", defArgs s_check_summary, defBody s_check_summary, defScope s_check_summary, [], []⟩
def d_is_action : He.DefD := ⟨("is_action", none), "is_action", "is_action", defArgs s_is_action, defBody s_is_action, defScope s_is_action, [], []⟩
def d_check_actions : He.DefD := ⟨("check_actions", none), "check_actions", "check_actions", defArgs s_check_actions, defBody s_check_actions, defScope s_check_actions, [], []⟩
def d_check_index : He.DefD := ⟨("check_index", none), "check_index", "check_index", defArgs s_check_index, defBody s_check_index, defScope s_check_index, [], []⟩
def d_check_run : He.DefD := ⟨("check_run", none), "check_run", "check_run", defArgs s_check_run, defBody s_check_run, defScope s_check_run, [], []⟩
def d_check_same : He.DefD := ⟨("check_same", none), "check_same", "check_same", defArgs s_check_same, defBody s_check_same, defScope s_check_same, [], []⟩
def d_more_rows : He.DefD := ⟨("more_rows", none), "more_rows", "more_rows", defArgs s_more_rows, defBody s_more_rows, defScope s_more_rows, [], []⟩
def d_state_after : He.DefD := ⟨("state_after", none), "state_after", "state_after", defArgs s_state_after, defBody s_state_after, defScope s_state_after, [], []⟩
def d_current_of : He.DefD := ⟨("current_of", none), "current_of", "current_of", defArgs s_current_of, defBody s_current_of, defScope s_current_of, [], []⟩
def d_Collector___init__ : He.DefD := ⟨("Collector", some "__init__"), "__init__", "Collector.__init__", defArgs s_Collector___init__, defBody s_Collector___init__, defScope s_Collector___init__, [], []⟩
def d_Collector___eq__ : He.DefD := ⟨("Collector", some "__eq__"), "__eq__", "Collector.__eq__", defArgs s_Collector___eq__, defBody s_Collector___eq__, defScope s_Collector___eq__, [], []⟩
def d_Collector___len__ : He.DefD := ⟨("Collector", some "__len__"), "__len__", "Collector.__len__", defArgs s_Collector___len__, defBody s_Collector___len__, defScope s_Collector___len__, [], []⟩
def d_Collector___str__ : He.DefD := ⟨("Collector", some "__str__"), "__str__", "Collector.__str__", defArgs s_Collector___str__, defBody s_Collector___str__, defScope s_Collector___str__, [], []⟩
def d_Collector___repr__ : He.DefD := ⟨("Collector", some "__repr__"), "__repr__", "Collector.__repr__", defArgs s_Collector___repr__, defBody s_Collector___repr__, defScope s_Collector___repr__, [], []⟩
def d_Collector_start : He.DefD := ⟨("Collector", some "start"), "start", "Collector.start", defArgs s_Collector_start, defBody s_Collector_start, defScope s_Collector_start, [], []⟩
def d_Collector_entries : He.DefD := ⟨("Collector", some "entries"), "entries", "Collector.entries", defArgs s_Collector_entries, defBody s_Collector_entries, defScope s_Collector_entries, [], []⟩
def d_Collector_current : He.DefD := ⟨("Collector", some "current"), "current", "Collector.current", defArgs s_Collector_current, defBody s_Collector_current, defScope s_Collector_current, [], []⟩
def d_Collector_history : He.DefD := ⟨("Collector", some "history"), "history", "Collector.history", defArgs s_Collector_history, defBody s_Collector_history, defScope s_Collector_history, [], []⟩
def d_Collector_arrived : He.DefD := ⟨("Collector", some "arrived"), "arrived", "Collector.arrived", defArgs s_Collector_arrived, defBody s_Collector_arrived, defScope s_Collector_arrived, [], []⟩
def d_Collector_change : He.DefD := ⟨("Collector", some "change"), "change", "Collector.change", defArgs s_Collector_change, defBody s_Collector_change, defScope s_Collector_change, [], []⟩
def d_Collector_do : He.DefD := ⟨("Collector", some "do"), "do", "Collector.do", defArgs s_Collector_do, defBody s_Collector_do, defScope s_Collector_do, [], []⟩
def d_Collector_arrive : He.DefD := ⟨("Collector", some "arrive"), "arrive", "Collector.arrive", defArgs s_Collector_arrive, defBody s_Collector_arrive, defScope s_Collector_arrive, [.int 1], []⟩
def d_Collector_merge : He.DefD := ⟨("Collector", some "merge"), "merge", "Collector.merge", defArgs s_Collector_merge, defBody s_Collector_merge, defScope s_Collector_merge, [], []⟩
def d_Collector_insert_at : He.DefD := ⟨("Collector", some "insert_at"), "insert_at", "Collector.insert_at", defArgs s_Collector_insert_at, defBody s_Collector_insert_at, defScope s_Collector_insert_at, [.int 1], []⟩
def d_Collector_restart : He.DefD := ⟨("Collector", some "restart"), "restart", "Collector.restart", defArgs s_Collector_restart, defBody s_Collector_restart, defScope s_Collector_restart, [], []⟩
def d_Collector_do_all : He.DefD := ⟨("Collector", some "do_all"), "do_all", "Collector.do_all", defArgs s_Collector_do_all, defBody s_Collector_do_all, defScope s_Collector_do_all, [], [("observer", .non)]⟩
def d_Collector_preview : He.DefD := ⟨("Collector", some "preview"), "preview", "Collector.preview", defArgs s_Collector_preview, defBody s_Collector_preview, defScope s_Collector_preview, [], []⟩
def d_Collector_undo : He.DefD := ⟨("Collector", some "undo"), "undo", "Collector.undo", defArgs s_Collector_undo, defBody s_Collector_undo, defScope s_Collector_undo, [], []⟩
def d_late_change : He.DefD := ⟨("late_change", none), "late_change", "late_change", defArgs s_late_change, defBody s_late_change, defScope s_late_change, [], []⟩
def d__law_cell : He.DefD := ⟨("_law_cell", none), "_law_cell", "_law_cell", defArgs s__law_cell, defBody s__law_cell, defScope s__law_cell, [], []⟩
def d__law_pool : He.DefD := ⟨("_law_pool", none), "_law_pool", "_law_pool", defArgs s__law_pool, defBody s__law_pool, defScope s__law_pool, [], []⟩
def d__law_draw : He.DefD := ⟨("_law_draw", none), "_law_draw", "_law_draw", defArgs s__law_draw, defBody s__law_draw, defScope s__law_draw, [], []⟩
def d__law_words : He.DefD := ⟨("_law_words", none), "_law_words", "_law_words", defArgs s__law_words, defBody s__law_words, defScope s__law_words, [], []⟩
def d__law_often : He.DefD := ⟨("_law_often", none), "_law_often", "_law_often", defArgs s__law_often, defBody s__law_often, defScope s__law_often, [], []⟩
def d__law_bag : He.DefD := ⟨("_law_bag", none), "_law_bag", "_law_bag", defArgs s__law_bag, defBody s__law_bag, defScope s__law_bag, [], []⟩
def d__law_path : He.DefD := ⟨("_law_path", none), "_law_path", "_law_path", defArgs s__law_path, defBody s__law_path, defScope s__law_path, [], []⟩
def d__law_run : He.DefD := ⟨("_law_run", none), "_law_run", "_law_run", defArgs s__law_run, defBody s__law_run, defScope s__law_run, [], []⟩
def d__law_played : He.DefD := ⟨("_law_played", none), "_law_played", "_law_played", defArgs s__law_played, defBody s__law_played, defScope s__law_played, [], []⟩
def d__law_flat : He.DefD := ⟨("_law_flat", none), "_law_flat", "_law_flat", defArgs s__law_flat, defBody s__law_flat, defScope s__law_flat, [], []⟩
def d__law_held : He.DefD := ⟨("_law_held", none), "_law_held", "_law_held", defArgs s__law_held, defBody s__law_held, defScope s__law_held, [], []⟩
def d__law_merged : He.DefD := ⟨("_law_merged", none), "_law_merged", "_law_merged", defArgs s__law_merged, defBody s__law_merged, defScope s__law_merged, [], []⟩
def d__law_text : He.DefD := ⟨("_law_text", none), "_law_text", "_law_text", defArgs s__law_text, defBody s__law_text, defScope s__law_text, [], []⟩
def d__law_now : He.DefD := ⟨("_law_now", none), "_law_now", "_law_now", defArgs s__law_now, defBody s__law_now, defScope s__law_now, [], []⟩
def d__law_plain : He.DefD := ⟨("_law_plain", none), "_law_plain", "_law_plain", defArgs s__law_plain, defBody s__law_plain, defScope s__law_plain, [], []⟩
def d__law_done : He.DefD := ⟨("_law_done", none), "_law_done", "_law_done", defArgs s__law_done, defBody s__law_done, defScope s__law_done, [], []⟩
def d__law_deed : He.DefD := ⟨("_law_deed", none), "_law_deed", "_law_deed", defArgs s__law_deed, defBody s__law_deed, defScope s__law_deed, [], []⟩
def d__law_deeds : He.DefD := ⟨("_law_deeds", none), "_law_deeds", "_law_deeds", defArgs s__law_deeds, defBody s__law_deeds, defScope s__law_deeds, [], []⟩
def d__law_rows_right : He.DefD := ⟨("_law_rows_right", none), "_law_rows_right", "_law_rows_right", defArgs s__law_rows_right, defBody s__law_rows_right, defScope s__law_rows_right, [], []⟩
def d__law_told_right : He.DefD := ⟨("_law_told_right", none), "_law_told_right", "_law_told_right", defArgs s__law_told_right, defBody s__law_told_right, defScope s__law_told_right, [], []⟩
def d__law_drawn : He.DefD := ⟨("_law_drawn", none), "_law_drawn", "_law_drawn", defArgs s__law_drawn, defBody s__law_drawn, defScope s__law_drawn, [], []⟩
def d__law_change : He.DefD := ⟨("_law_change", none), "_law_change", "_law_change", defArgs s__law_change, defBody s__law_change, defScope s__law_change, [], []⟩
def d__law_changed : He.DefD := ⟨("_law_changed", none), "_law_changed", "_law_changed", defArgs s__law_changed, defBody s__law_changed, defScope s__law_changed, [], []⟩
def d__law_runs_right : He.DefD := ⟨("_law_runs_right", none), "_law_runs_right", "_law_runs_right", defArgs s__law_runs_right, defBody s__law_runs_right, defScope s__law_runs_right, [], []⟩
def d__law_merges_right : He.DefD := ⟨("_law_merges_right", none), "_law_merges_right", "_law_merges_right", defArgs s__law_merges_right, defBody s__law_merges_right, defScope s__law_merges_right, [], []⟩
def d__law_right : He.DefD := ⟨("_law_right", none), "_law_right", "_law_right", defArgs s__law_right, defBody s__law_right, defScope s__law_right, [], []⟩
def d_law : He.DefD := ⟨("law", none), "law", "law", defArgs s_law, defBody s_law, defScope s_law, [], []⟩
def fn : List He.DefD := [d_is_whole, d_is_from, d_is_between, d_is_capacity, d_is_name, d_is_run, d_first_invalid, d_check_capacity, d_check_name, d_table_of, d_counts_of_table, d_first_no_order, d_check_order, d_counts_text, d_Summary___init__, d_Summary___eq__, d_Summary___len__, d_Summary___str__, d_Summary___repr__, d_Summary_arrive, d_Summary_reductions, d_Summary_merged, d_lowered, d_arrived, d_played, d_is_summary, d_check_summary, d_is_action, d_check_actions, d_check_index, d_check_run, d_check_same, d_more_rows, d_state_after, d_current_of, d_Collector___init__, d_Collector___eq__, d_Collector___len__, d_Collector___str__, d_Collector___repr__, d_Collector_start, d_Collector_entries, d_Collector_current, d_Collector_history, d_Collector_arrived, d_Collector_change, d_Collector_do, d_Collector_arrive, d_Collector_merge, d_Collector_insert_at, d_Collector_restart, d_Collector_do_all, d_Collector_preview, d_Collector_undo, d_late_change, d__law_cell, d__law_pool, d__law_draw, d__law_words, d__law_often, d__law_bag, d__law_path, d__law_run, d__law_played, d__law_flat, d__law_held, d__law_merged, d__law_text, d__law_now, d__law_plain, d__law_done, d__law_deed, d__law_deeds, d__law_rows_right, d__law_told_right, d__law_drawn, d__law_change, d__law_changed, d__law_runs_right, d__law_merges_right, d__law_right, d_law]
def fa : List He.Fa := [.free "isinstance", .free "int", .free "bool", .free "len", .free "all", .free "str", .free "tuple", .free "enumerate", .free "sorted", .free "dict", .free "min", .free "list", .free "max", .free "abs", .free "range", .free "repr", .free "divmod", .free "zip", .int "MAX_CAPACITY" 8, .int "MAX_NAMES" 12, .int "MAX_RUNS" 1000, .int "MAX_ACTIONS" 100, .str "LETTERS" "abcdefghijklmnopqrstuvwxyz", .glo "is_whole", .glo "is_from", .glo "is_between", .glo "is_capacity", .glo "is_name", .glo "is_run", .glo "first_invalid", .glo "check_capacity", .glo "check_name", .glo "table_of", .glo "counts_of_table", .glo "first_no_order", .glo "check_order", .glo "counts_text", .glo "lowered", .glo "arrived", .glo "played", .glo "is_summary", .glo "check_summary", .glo "is_action", .glo "check_actions", .glo "check_index", .glo "check_run", .glo "check_same", .glo "more_rows", .glo "state_after", .glo "current_of", .glo "late_change", .glo "_law_cell", .glo "_law_pool", .glo "_law_draw", .glo "_law_words", .glo "_law_often", .glo "_law_bag", .glo "_law_path", .glo "_law_run", .glo "_law_played", .glo "_law_flat", .glo "_law_held", .glo "_law_merged", .glo "_law_text", .glo "_law_now", .glo "_law_plain", .glo "_law_done", .glo "_law_deed", .glo "_law_deeds", .glo "_law_rows_right", .glo "_law_told_right", .glo "_law_drawn", .glo "_law_change", .glo "_law_changed", .glo "_law_runs_right", .glo "_law_merges_right", .glo "_law_right", .glo "law", .glo "ACTION_SIZES", .glo "Summary", .cls "Summary", .mkr "Summary", .meth "Summary" "__eq__", .meth "Summary" "__len__", .meth "Summary" "__str__", .meth "Summary" "__repr__", .meth "Summary" "arrive", .meth "Summary" "reductions", .meth "Summary" "merged", .glo "Collector", .cls "Collector", .mkr "Collector", .meth "Collector" "__eq__", .meth "Collector" "__len__", .meth "Collector" "__str__", .meth "Collector" "__repr__", .meth "Collector" "start", .meth "Collector" "entries", .meth "Collector" "current", .meth "Collector" "history", .meth "Collector" "arrived", .meth "Collector" "change", .meth "Collector" "do", .meth "Collector" "arrive", .meth "Collector" "merge", .meth "Collector" "insert_at", .meth "Collector" "restart", .meth "Collector" "do_all", .meth "Collector" "preview", .meth "Collector" "undo", .noat "Summary" "capacity", .noat "Summary" "counts", .noat "Collector" "capacity", .noat "Collector" "begin", .noat "Collector" "rows", .noat "Collector" "past", .noat "Collector" "busy", .noat "Collector" "attempts"]
def names0 : List PySem.Str := ["_wall", "__name__", "TallyError", "InvalidCapacity", "InvalidName", "InvalidTimes", "InvalidSummary", "InvalidOrder", "InvalidIndex", "InvalidAction", "NotASummary", "StateError", "CapacitiesDiffer", "Busy", "NothingToUndo"]
def names1 : List PySem.Str := ["SizeError", "TooManyNames", "TooManyActions", "MAX_CAPACITY", "MAX_NAMES", "MAX_RUNS", "MAX_ACTIONS", "LETTERS", "is_whole", "is_from", "is_between", "is_capacity", "is_name", "is_run", "first_invalid"]
def names2 : List PySem.Str := ["check_capacity", "check_name", "table_of", "counts_of_table", "first_no_order", "check_order", "counts_text", "Summary", "lowered", "arrived", "played", "is_summary", "check_summary", "ACTION_SIZES", "is_action"]
def names3 : List PySem.Str := ["check_actions", "check_index", "check_run", "check_same", "more_rows", "state_after", "current_of", "Collector", "late_change", "_law_cell", "_law_pool", "_law_draw", "_law_words", "_law_often", "_law_bag"]
def names4 : List PySem.Str := ["_law_path", "_law_run", "_law_played", "_law_flat", "_law_held", "_law_merged", "_law_text", "_law_now", "_law_plain", "_law_done", "_law_deed", "_law_deeds", "_law_rows_right", "_law_told_right", "_law_drawn"]
def names5 : List PySem.Str := ["_law_change", "_law_changed", "_law_runs_right", "_law_merges_right", "_law_right"]
def names : List PySem.Str := names0 ++ names1 ++ names2 ++ names3 ++ names4 ++ names5
abbrev R : PySem.W.OpenRow := PySem.W.OpenLaw.row PySem.Challenge.rw_tallyplans_k93_whole_late_arrivals_of_a
def ts : List He.Tab := [(fun K => He.ga K "ACTION_SIZES", ["arrive", "merge", "insert", "remove", "start"])]
abbrev AlM : Type := He.AlT × Bool
def obsM (g : Addr → Option Obj) : AlM := forceK (He.frG g (asM g)) fun K => (He.obsT fa fn ts K, exB K)
def valM (w : World) : AlM := (He.valT fn ts w, true)
structure SaysM (w : World) (K : PySem.W.Frag) : Prop where
  t : He.SaysT fa fn ts w K
  ex : exB K = true
theorem saysM_of {g : Addr → Option Obj} {w : World} (e : obsM g = valM w) : SaysM w (He.frG g (asM g)) := by
  unfold obsM at e
  rw [forceK_eq] at e
  exact ⟨congrArg (fun z : AlM => z.1) e, congrArg (fun z : AlM => z.2) e⟩
def hk : PySem.W.Hook where
  α := AlM
  obs := fun s => obsM s.heap.get?
  val := fun w => valM w
  says := fun w h => ∃ K : PySem.W.Frag, K.In h ∧ SaysM w K
  of := fun _ _ e => ⟨_, He.frG_in, saysM_of e⟩
  keeps := fun _ _ _ ⟨K, hK, c⟩ k => ⟨K, PySem.W.Frag.In.keeps hK k, c⟩
def ob (s : PySem.W.SharedT) : AlM := obsM (HandSHeadRun.getT s)
theorem ob_eq (s : PySem.W.SharedT) : ob s = hk.obs s.abs := by
  have e : HandSHeadRun.getT s = s.abs.heap.get? := funext (HandSHeadRun.getT_eq s)
  unfold ob
  rw [e]
  rfl
end Kx
set_option Elab.async false
set_option linter.all false
set_option maxRecDepth 100000
set_option maxHeartbeats 0
namespace Kx
open PySem PySem.Spec PySem.W PySem.Calls PyProof.Rows L2
abbrev rowN : String := "special-get-raises"
theorem run_f (w : World) : HandSHeadRun.RunEq R (view R.prog [88]) hk ob 12000 names (w.withFollow rowN false) := by
  intro os
  kernel_rfl
theorem run_t (w : World) : HandSHeadRun.RunEq R (view R.prog [88]) hk ob 12000 names (w.withFollow rowN true) := by
  intro os
  kernel_rfl
theorem run (w : World) : HandSHeadRun.RunEq R (view R.prog [88]) hk ob 12000 names w := byRow2 rowN (P := fun w => HandSHeadRun.RunEq R (view R.prog [88]) hk ob 12000 names w) run_f run_t w
end Kx
set_option Elab.async false
set_option linter.all false
set_option maxRecDepth 100000
set_option maxHeartbeats 0
namespace Kx
open PySem PySem.Spec PyProof.Rows L2
/-! ### what the defs lean on, by names -/
structure Tx (w : World) (K : PySem.W.Frag) (mg : Str → Option Value) : Prop where
  s : SaysM w K
  gl : ∀ (x : Str) (v : Value), PySem.W.nsIn K mainGlobals x = some (some v) → mg x = some v
  fr : ∀ x : Str, PySem.W.nsIn K mainGlobals x = some none → mg x = none
abbrev CS (K : PySem.W.Frag) : Addr := He.ga K "Summary"
abbrev CC (K : PySem.W.Frag) : Addr := He.ga K "Collector"
section
variable {w : World} {K : PySem.W.Frag} {mg : Str → Option Value}
theorem tx_int (T : Tx w K mg) {x : Str} {i : Int} (c : (He.Fa.int x i).ok K = true) : ∃ t, mg x = some (.int i t) := by
  have c2 : (match PySem.W.nsIn K mainGlobals x with
    | some (some (.int j _)) => decide (j = i)
    | _ => false) = true := c
  split at c2
  · rename_i j t e
    exact ⟨t, of_decide_eq_true c2 ▸ T.gl _ _ e⟩
  · cases c2
theorem tx_str (T : Tx w K mg) {x z : Str} (c : (He.Fa.str x z).ok K = true) : ∃ t, mg x = some (.str z t) := by
  have c2 : (match PySem.W.nsIn K mainGlobals x with
    | some (some (.str j _)) => decide (j = z)
    | _ => false) = true := c
  split at c2
  · rename_i j t e
    exact ⟨t, of_decide_eq_true c2 ▸ T.gl _ _ e⟩
  · cases c2
variable (T : Tx w K mg)
include T
theorem Tx.exAll : ∀ b ∈ exL K, b = true := fun b h => by
  have e : (exL K).all id = true := T.s.ex
  exact List.all_eq_true.mp e b h
theorem Tx.b_isinstance : mg "isinstance" = none := T.fr _ (He.eqO_ok (T.s.t.d.fact 0 (f := .free "isinstance") rfl))
theorem Tx.b_int : mg "int" = none := T.fr _ (He.eqO_ok (T.s.t.d.fact 1 (f := .free "int") rfl))
theorem Tx.b_bool : mg "bool" = none := T.fr _ (He.eqO_ok (T.s.t.d.fact 2 (f := .free "bool") rfl))
theorem Tx.b_len : mg "len" = none := T.fr _ (He.eqO_ok (T.s.t.d.fact 3 (f := .free "len") rfl))
theorem Tx.b_all : mg "all" = none := T.fr _ (He.eqO_ok (T.s.t.d.fact 4 (f := .free "all") rfl))
theorem Tx.b_str : mg "str" = none := T.fr _ (He.eqO_ok (T.s.t.d.fact 5 (f := .free "str") rfl))
theorem Tx.b_tuple : mg "tuple" = none := T.fr _ (He.eqO_ok (T.s.t.d.fact 6 (f := .free "tuple") rfl))
theorem Tx.b_enumerate : mg "enumerate" = none := T.fr _ (He.eqO_ok (T.s.t.d.fact 7 (f := .free "enumerate") rfl))
theorem Tx.b_sorted : mg "sorted" = none := T.fr _ (He.eqO_ok (T.s.t.d.fact 8 (f := .free "sorted") rfl))
theorem Tx.b_dict : mg "dict" = none := T.fr _ (He.eqO_ok (T.s.t.d.fact 9 (f := .free "dict") rfl))
theorem Tx.b_min : mg "min" = none := T.fr _ (He.eqO_ok (T.s.t.d.fact 10 (f := .free "min") rfl))
theorem Tx.b_list : mg "list" = none := T.fr _ (He.eqO_ok (T.s.t.d.fact 11 (f := .free "list") rfl))
theorem Tx.b_max : mg "max" = none := T.fr _ (He.eqO_ok (T.s.t.d.fact 12 (f := .free "max") rfl))
theorem Tx.b_abs : mg "abs" = none := T.fr _ (He.eqO_ok (T.s.t.d.fact 13 (f := .free "abs") rfl))
theorem Tx.b_range : mg "range" = none := T.fr _ (He.eqO_ok (T.s.t.d.fact 14 (f := .free "range") rfl))
theorem Tx.b_repr : mg "repr" = none := T.fr _ (He.eqO_ok (T.s.t.d.fact 15 (f := .free "repr") rfl))
theorem Tx.b_divmod : mg "divmod" = none := T.fr _ (He.eqO_ok (T.s.t.d.fact 16 (f := .free "divmod") rfl))
theorem Tx.b_zip : mg "zip" = none := T.fr _ (He.eqO_ok (T.s.t.d.fact 17 (f := .free "zip") rfl))
theorem Tx.i_MAX_CAPACITY : ∃ t, mg "MAX_CAPACITY" = some (.int 8 t) := tx_int T ((T.s.t.d.fact 18 (f := .int "MAX_CAPACITY" 8) rfl))
theorem Tx.i_MAX_NAMES : ∃ t, mg "MAX_NAMES" = some (.int 12 t) := tx_int T ((T.s.t.d.fact 19 (f := .int "MAX_NAMES" 12) rfl))
theorem Tx.i_MAX_RUNS : ∃ t, mg "MAX_RUNS" = some (.int 1000 t) := tx_int T ((T.s.t.d.fact 20 (f := .int "MAX_RUNS" 1000) rfl))
theorem Tx.i_MAX_ACTIONS : ∃ t, mg "MAX_ACTIONS" = some (.int 100 t) := tx_int T ((T.s.t.d.fact 21 (f := .int "MAX_ACTIONS" 100) rfl))
theorem Tx.s_LETTERS : ∃ t, mg "LETTERS" = some (.str "abcdefghijklmnopqrstuvwxyz" t) := tx_str T ((T.s.t.d.fact 22 (f := .str "LETTERS" "abcdefghijklmnopqrstuvwxyz") rfl))
theorem Tx.m_is_whole : mg "is_whole" = some (.ref (He.ga K "is_whole")) := T.gl _ _ (He.eqO_ok (T.s.t.d.fact 23 (f := .glo "is_whole") rfl))
theorem Tx.m_is_from : mg "is_from" = some (.ref (He.ga K "is_from")) := T.gl _ _ (He.eqO_ok (T.s.t.d.fact 24 (f := .glo "is_from") rfl))
theorem Tx.m_is_between : mg "is_between" = some (.ref (He.ga K "is_between")) := T.gl _ _ (He.eqO_ok (T.s.t.d.fact 25 (f := .glo "is_between") rfl))
theorem Tx.m_is_capacity : mg "is_capacity" = some (.ref (He.ga K "is_capacity")) := T.gl _ _ (He.eqO_ok (T.s.t.d.fact 26 (f := .glo "is_capacity") rfl))
theorem Tx.m_is_name : mg "is_name" = some (.ref (He.ga K "is_name")) := T.gl _ _ (He.eqO_ok (T.s.t.d.fact 27 (f := .glo "is_name") rfl))
theorem Tx.m_is_run : mg "is_run" = some (.ref (He.ga K "is_run")) := T.gl _ _ (He.eqO_ok (T.s.t.d.fact 28 (f := .glo "is_run") rfl))
theorem Tx.m_first_invalid : mg "first_invalid" = some (.ref (He.ga K "first_invalid")) := T.gl _ _ (He.eqO_ok (T.s.t.d.fact 29 (f := .glo "first_invalid") rfl))
theorem Tx.m_check_capacity : mg "check_capacity" = some (.ref (He.ga K "check_capacity")) := T.gl _ _ (He.eqO_ok (T.s.t.d.fact 30 (f := .glo "check_capacity") rfl))
theorem Tx.m_check_name : mg "check_name" = some (.ref (He.ga K "check_name")) := T.gl _ _ (He.eqO_ok (T.s.t.d.fact 31 (f := .glo "check_name") rfl))
theorem Tx.m_table_of : mg "table_of" = some (.ref (He.ga K "table_of")) := T.gl _ _ (He.eqO_ok (T.s.t.d.fact 32 (f := .glo "table_of") rfl))
theorem Tx.m_counts_of_table : mg "counts_of_table" = some (.ref (He.ga K "counts_of_table")) := T.gl _ _ (He.eqO_ok (T.s.t.d.fact 33 (f := .glo "counts_of_table") rfl))
theorem Tx.m_first_no_order : mg "first_no_order" = some (.ref (He.ga K "first_no_order")) := T.gl _ _ (He.eqO_ok (T.s.t.d.fact 34 (f := .glo "first_no_order") rfl))
theorem Tx.m_check_order : mg "check_order" = some (.ref (He.ga K "check_order")) := T.gl _ _ (He.eqO_ok (T.s.t.d.fact 35 (f := .glo "check_order") rfl))
theorem Tx.m_counts_text : mg "counts_text" = some (.ref (He.ga K "counts_text")) := T.gl _ _ (He.eqO_ok (T.s.t.d.fact 36 (f := .glo "counts_text") rfl))
theorem Tx.m_lowered : mg "lowered" = some (.ref (He.ga K "lowered")) := T.gl _ _ (He.eqO_ok (T.s.t.d.fact 37 (f := .glo "lowered") rfl))
theorem Tx.m_arrived : mg "arrived" = some (.ref (He.ga K "arrived")) := T.gl _ _ (He.eqO_ok (T.s.t.d.fact 38 (f := .glo "arrived") rfl))
theorem Tx.m_played : mg "played" = some (.ref (He.ga K "played")) := T.gl _ _ (He.eqO_ok (T.s.t.d.fact 39 (f := .glo "played") rfl))
theorem Tx.m_is_summary : mg "is_summary" = some (.ref (He.ga K "is_summary")) := T.gl _ _ (He.eqO_ok (T.s.t.d.fact 40 (f := .glo "is_summary") rfl))
theorem Tx.m_check_summary : mg "check_summary" = some (.ref (He.ga K "check_summary")) := T.gl _ _ (He.eqO_ok (T.s.t.d.fact 41 (f := .glo "check_summary") rfl))
theorem Tx.m_is_action : mg "is_action" = some (.ref (He.ga K "is_action")) := T.gl _ _ (He.eqO_ok (T.s.t.d.fact 42 (f := .glo "is_action") rfl))
theorem Tx.m_check_actions : mg "check_actions" = some (.ref (He.ga K "check_actions")) := T.gl _ _ (He.eqO_ok (T.s.t.d.fact 43 (f := .glo "check_actions") rfl))
theorem Tx.m_check_index : mg "check_index" = some (.ref (He.ga K "check_index")) := T.gl _ _ (He.eqO_ok (T.s.t.d.fact 44 (f := .glo "check_index") rfl))
theorem Tx.m_check_run : mg "check_run" = some (.ref (He.ga K "check_run")) := T.gl _ _ (He.eqO_ok (T.s.t.d.fact 45 (f := .glo "check_run") rfl))
theorem Tx.m_check_same : mg "check_same" = some (.ref (He.ga K "check_same")) := T.gl _ _ (He.eqO_ok (T.s.t.d.fact 46 (f := .glo "check_same") rfl))
theorem Tx.m_more_rows : mg "more_rows" = some (.ref (He.ga K "more_rows")) := T.gl _ _ (He.eqO_ok (T.s.t.d.fact 47 (f := .glo "more_rows") rfl))
theorem Tx.m_state_after : mg "state_after" = some (.ref (He.ga K "state_after")) := T.gl _ _ (He.eqO_ok (T.s.t.d.fact 48 (f := .glo "state_after") rfl))
theorem Tx.m_current_of : mg "current_of" = some (.ref (He.ga K "current_of")) := T.gl _ _ (He.eqO_ok (T.s.t.d.fact 49 (f := .glo "current_of") rfl))
theorem Tx.m_late_change : mg "late_change" = some (.ref (He.ga K "late_change")) := T.gl _ _ (He.eqO_ok (T.s.t.d.fact 50 (f := .glo "late_change") rfl))
theorem Tx.m__law_cell : mg "_law_cell" = some (.ref (He.ga K "_law_cell")) := T.gl _ _ (He.eqO_ok (T.s.t.d.fact 51 (f := .glo "_law_cell") rfl))
theorem Tx.m__law_pool : mg "_law_pool" = some (.ref (He.ga K "_law_pool")) := T.gl _ _ (He.eqO_ok (T.s.t.d.fact 52 (f := .glo "_law_pool") rfl))
theorem Tx.m__law_draw : mg "_law_draw" = some (.ref (He.ga K "_law_draw")) := T.gl _ _ (He.eqO_ok (T.s.t.d.fact 53 (f := .glo "_law_draw") rfl))
theorem Tx.m__law_words : mg "_law_words" = some (.ref (He.ga K "_law_words")) := T.gl _ _ (He.eqO_ok (T.s.t.d.fact 54 (f := .glo "_law_words") rfl))
theorem Tx.m__law_often : mg "_law_often" = some (.ref (He.ga K "_law_often")) := T.gl _ _ (He.eqO_ok (T.s.t.d.fact 55 (f := .glo "_law_often") rfl))
theorem Tx.m__law_bag : mg "_law_bag" = some (.ref (He.ga K "_law_bag")) := T.gl _ _ (He.eqO_ok (T.s.t.d.fact 56 (f := .glo "_law_bag") rfl))
theorem Tx.m__law_path : mg "_law_path" = some (.ref (He.ga K "_law_path")) := T.gl _ _ (He.eqO_ok (T.s.t.d.fact 57 (f := .glo "_law_path") rfl))
theorem Tx.m__law_run : mg "_law_run" = some (.ref (He.ga K "_law_run")) := T.gl _ _ (He.eqO_ok (T.s.t.d.fact 58 (f := .glo "_law_run") rfl))
theorem Tx.m__law_played : mg "_law_played" = some (.ref (He.ga K "_law_played")) := T.gl _ _ (He.eqO_ok (T.s.t.d.fact 59 (f := .glo "_law_played") rfl))
theorem Tx.m__law_flat : mg "_law_flat" = some (.ref (He.ga K "_law_flat")) := T.gl _ _ (He.eqO_ok (T.s.t.d.fact 60 (f := .glo "_law_flat") rfl))
theorem Tx.m__law_held : mg "_law_held" = some (.ref (He.ga K "_law_held")) := T.gl _ _ (He.eqO_ok (T.s.t.d.fact 61 (f := .glo "_law_held") rfl))
theorem Tx.m__law_merged : mg "_law_merged" = some (.ref (He.ga K "_law_merged")) := T.gl _ _ (He.eqO_ok (T.s.t.d.fact 62 (f := .glo "_law_merged") rfl))
theorem Tx.m__law_text : mg "_law_text" = some (.ref (He.ga K "_law_text")) := T.gl _ _ (He.eqO_ok (T.s.t.d.fact 63 (f := .glo "_law_text") rfl))
theorem Tx.m__law_now : mg "_law_now" = some (.ref (He.ga K "_law_now")) := T.gl _ _ (He.eqO_ok (T.s.t.d.fact 64 (f := .glo "_law_now") rfl))
theorem Tx.m__law_plain : mg "_law_plain" = some (.ref (He.ga K "_law_plain")) := T.gl _ _ (He.eqO_ok (T.s.t.d.fact 65 (f := .glo "_law_plain") rfl))
theorem Tx.m__law_done : mg "_law_done" = some (.ref (He.ga K "_law_done")) := T.gl _ _ (He.eqO_ok (T.s.t.d.fact 66 (f := .glo "_law_done") rfl))
theorem Tx.m__law_deed : mg "_law_deed" = some (.ref (He.ga K "_law_deed")) := T.gl _ _ (He.eqO_ok (T.s.t.d.fact 67 (f := .glo "_law_deed") rfl))
theorem Tx.m__law_deeds : mg "_law_deeds" = some (.ref (He.ga K "_law_deeds")) := T.gl _ _ (He.eqO_ok (T.s.t.d.fact 68 (f := .glo "_law_deeds") rfl))
theorem Tx.m__law_rows_right : mg "_law_rows_right" = some (.ref (He.ga K "_law_rows_right")) := T.gl _ _ (He.eqO_ok (T.s.t.d.fact 69 (f := .glo "_law_rows_right") rfl))
theorem Tx.m__law_told_right : mg "_law_told_right" = some (.ref (He.ga K "_law_told_right")) := T.gl _ _ (He.eqO_ok (T.s.t.d.fact 70 (f := .glo "_law_told_right") rfl))
theorem Tx.m__law_drawn : mg "_law_drawn" = some (.ref (He.ga K "_law_drawn")) := T.gl _ _ (He.eqO_ok (T.s.t.d.fact 71 (f := .glo "_law_drawn") rfl))
theorem Tx.m__law_change : mg "_law_change" = some (.ref (He.ga K "_law_change")) := T.gl _ _ (He.eqO_ok (T.s.t.d.fact 72 (f := .glo "_law_change") rfl))
theorem Tx.m__law_changed : mg "_law_changed" = some (.ref (He.ga K "_law_changed")) := T.gl _ _ (He.eqO_ok (T.s.t.d.fact 73 (f := .glo "_law_changed") rfl))
theorem Tx.m__law_runs_right : mg "_law_runs_right" = some (.ref (He.ga K "_law_runs_right")) := T.gl _ _ (He.eqO_ok (T.s.t.d.fact 74 (f := .glo "_law_runs_right") rfl))
theorem Tx.m__law_merges_right : mg "_law_merges_right" = some (.ref (He.ga K "_law_merges_right")) := T.gl _ _ (He.eqO_ok (T.s.t.d.fact 75 (f := .glo "_law_merges_right") rfl))
theorem Tx.m__law_right : mg "_law_right" = some (.ref (He.ga K "_law_right")) := T.gl _ _ (He.eqO_ok (T.s.t.d.fact 76 (f := .glo "_law_right") rfl))
theorem Tx.m_law : mg "law" = some (.ref (He.ga K "law")) := T.gl _ _ (He.eqO_ok (T.s.t.d.fact 77 (f := .glo "law") rfl))
theorem Tx.m_ACTION_SIZES : mg "ACTION_SIZES" = some (.ref (He.ga K "ACTION_SIZES")) := T.gl _ _ (He.eqO_ok (T.s.t.d.fact 78 (f := .glo "ACTION_SIZES") rfl))
theorem Tx.m_Summary : mg "Summary" = some (.ref (He.ga K "Summary")) := T.gl _ _ (He.eqO_ok (T.s.t.d.fact 79 (f := .glo "Summary") rfl))
theorem Tx.c_Summary : Cls K (He.ga K "Summary") := He.cls_ok (T.s.t.d.fact 80 (f := .cls "Summary") rfl)
theorem Tx.mk_Summary : Mk K (He.ga K "Summary") (He.ma K (He.ga K "Summary") "__init__") := He.mkr_ok (T.s.t.d.fact 81 (f := .mkr "Summary") rfl)
theorem Tx.me_Summary___eq__ : Meth K (He.ga K "Summary") "__eq__" (He.ma K (He.ga K "Summary") "__eq__") := He.meth_ok (T.s.t.d.fact 82 (f := .meth "Summary" "__eq__") rfl)
theorem Tx.me_Summary___len__ : Meth K (He.ga K "Summary") "__len__" (He.ma K (He.ga K "Summary") "__len__") := He.meth_ok (T.s.t.d.fact 83 (f := .meth "Summary" "__len__") rfl)
theorem Tx.me_Summary___str__ : Meth K (He.ga K "Summary") "__str__" (He.ma K (He.ga K "Summary") "__str__") := He.meth_ok (T.s.t.d.fact 84 (f := .meth "Summary" "__str__") rfl)
theorem Tx.me_Summary___repr__ : Meth K (He.ga K "Summary") "__repr__" (He.ma K (He.ga K "Summary") "__repr__") := He.meth_ok (T.s.t.d.fact 85 (f := .meth "Summary" "__repr__") rfl)
theorem Tx.me_Summary_arrive : Meth K (He.ga K "Summary") "arrive" (He.ma K (He.ga K "Summary") "arrive") := He.meth_ok (T.s.t.d.fact 86 (f := .meth "Summary" "arrive") rfl)
theorem Tx.me_Summary_reductions : Meth K (He.ga K "Summary") "reductions" (He.ma K (He.ga K "Summary") "reductions") := He.meth_ok (T.s.t.d.fact 87 (f := .meth "Summary" "reductions") rfl)
theorem Tx.me_Summary_merged : Meth K (He.ga K "Summary") "merged" (He.ma K (He.ga K "Summary") "merged") := He.meth_ok (T.s.t.d.fact 88 (f := .meth "Summary" "merged") rfl)
theorem Tx.m_Collector : mg "Collector" = some (.ref (He.ga K "Collector")) := T.gl _ _ (He.eqO_ok (T.s.t.d.fact 89 (f := .glo "Collector") rfl))
theorem Tx.c_Collector : Cls K (He.ga K "Collector") := He.cls_ok (T.s.t.d.fact 90 (f := .cls "Collector") rfl)
theorem Tx.mk_Collector : Mk K (He.ga K "Collector") (He.ma K (He.ga K "Collector") "__init__") := He.mkr_ok (T.s.t.d.fact 91 (f := .mkr "Collector") rfl)
theorem Tx.me_Collector___eq__ : Meth K (He.ga K "Collector") "__eq__" (He.ma K (He.ga K "Collector") "__eq__") := He.meth_ok (T.s.t.d.fact 92 (f := .meth "Collector" "__eq__") rfl)
theorem Tx.me_Collector___len__ : Meth K (He.ga K "Collector") "__len__" (He.ma K (He.ga K "Collector") "__len__") := He.meth_ok (T.s.t.d.fact 93 (f := .meth "Collector" "__len__") rfl)
theorem Tx.me_Collector___str__ : Meth K (He.ga K "Collector") "__str__" (He.ma K (He.ga K "Collector") "__str__") := He.meth_ok (T.s.t.d.fact 94 (f := .meth "Collector" "__str__") rfl)
theorem Tx.me_Collector___repr__ : Meth K (He.ga K "Collector") "__repr__" (He.ma K (He.ga K "Collector") "__repr__") := He.meth_ok (T.s.t.d.fact 95 (f := .meth "Collector" "__repr__") rfl)
theorem Tx.me_Collector_start : Meth K (He.ga K "Collector") "start" (He.ma K (He.ga K "Collector") "start") := He.meth_ok (T.s.t.d.fact 96 (f := .meth "Collector" "start") rfl)
theorem Tx.me_Collector_entries : Meth K (He.ga K "Collector") "entries" (He.ma K (He.ga K "Collector") "entries") := He.meth_ok (T.s.t.d.fact 97 (f := .meth "Collector" "entries") rfl)
theorem Tx.me_Collector_current : Meth K (He.ga K "Collector") "current" (He.ma K (He.ga K "Collector") "current") := He.meth_ok (T.s.t.d.fact 98 (f := .meth "Collector" "current") rfl)
theorem Tx.me_Collector_history : Meth K (He.ga K "Collector") "history" (He.ma K (He.ga K "Collector") "history") := He.meth_ok (T.s.t.d.fact 99 (f := .meth "Collector" "history") rfl)
theorem Tx.me_Collector_arrived : Meth K (He.ga K "Collector") "arrived" (He.ma K (He.ga K "Collector") "arrived") := He.meth_ok (T.s.t.d.fact 100 (f := .meth "Collector" "arrived") rfl)
theorem Tx.me_Collector_change : Meth K (He.ga K "Collector") "change" (He.ma K (He.ga K "Collector") "change") := He.meth_ok (T.s.t.d.fact 101 (f := .meth "Collector" "change") rfl)
theorem Tx.me_Collector_do : Meth K (He.ga K "Collector") "do" (He.ma K (He.ga K "Collector") "do") := He.meth_ok (T.s.t.d.fact 102 (f := .meth "Collector" "do") rfl)
theorem Tx.me_Collector_arrive : Meth K (He.ga K "Collector") "arrive" (He.ma K (He.ga K "Collector") "arrive") := He.meth_ok (T.s.t.d.fact 103 (f := .meth "Collector" "arrive") rfl)
theorem Tx.me_Collector_merge : Meth K (He.ga K "Collector") "merge" (He.ma K (He.ga K "Collector") "merge") := He.meth_ok (T.s.t.d.fact 104 (f := .meth "Collector" "merge") rfl)
theorem Tx.me_Collector_insert_at : Meth K (He.ga K "Collector") "insert_at" (He.ma K (He.ga K "Collector") "insert_at") := He.meth_ok (T.s.t.d.fact 105 (f := .meth "Collector" "insert_at") rfl)
theorem Tx.me_Collector_restart : Meth K (He.ga K "Collector") "restart" (He.ma K (He.ga K "Collector") "restart") := He.meth_ok (T.s.t.d.fact 106 (f := .meth "Collector" "restart") rfl)
theorem Tx.me_Collector_do_all : Meth K (He.ga K "Collector") "do_all" (He.ma K (He.ga K "Collector") "do_all") := He.meth_ok (T.s.t.d.fact 107 (f := .meth "Collector" "do_all") rfl)
theorem Tx.me_Collector_preview : Meth K (He.ga K "Collector") "preview" (He.ma K (He.ga K "Collector") "preview") := He.meth_ok (T.s.t.d.fact 108 (f := .meth "Collector" "preview") rfl)
theorem Tx.me_Collector_undo : Meth K (He.ga K "Collector") "undo" (He.ma K (He.ga K "Collector") "undo") := He.meth_ok (T.s.t.d.fact 109 (f := .meth "Collector" "undo") rfl)
theorem Tx.n_Summary_capacity : NoAttr K (He.ga K "Summary") "capacity" := He.noat_ok (T.s.t.d.fact 110 (f := .noat "Summary" "capacity") rfl)
theorem Tx.n_Summary_counts : NoAttr K (He.ga K "Summary") "counts" := He.noat_ok (T.s.t.d.fact 111 (f := .noat "Summary" "counts") rfl)
theorem Tx.n_Collector_capacity : NoAttr K (He.ga K "Collector") "capacity" := He.noat_ok (T.s.t.d.fact 112 (f := .noat "Collector" "capacity") rfl)
theorem Tx.n_Collector_begin : NoAttr K (He.ga K "Collector") "begin" := He.noat_ok (T.s.t.d.fact 113 (f := .noat "Collector" "begin") rfl)
theorem Tx.n_Collector_rows : NoAttr K (He.ga K "Collector") "rows" := He.noat_ok (T.s.t.d.fact 114 (f := .noat "Collector" "rows") rfl)
theorem Tx.n_Collector_past : NoAttr K (He.ga K "Collector") "past" := He.noat_ok (T.s.t.d.fact 115 (f := .noat "Collector" "past") rfl)
theorem Tx.n_Collector_busy : NoAttr K (He.ga K "Collector") "busy" := He.noat_ok (T.s.t.d.fact 116 (f := .noat "Collector" "busy") rfl)
theorem Tx.n_Collector_attempts : NoAttr K (He.ga K "Collector") "attempts" := He.noat_ok (T.s.t.d.fact 117 (f := .noat "Collector" "attempts") rfl)
theorem Tx.D_is_whole : ∃ fd, FunD K "is_whole" "is_whole" (defArgs s_is_whole) (defBody s_is_whole) (defScope s_is_whole) (([] : List He.Dv).map (He.Dv.v K)) (([] : List (Str × He.Dv)).map fun q => (q.1, q.2.v K)) (He.ga K "is_whole") fd := T.s.t.d.def_ 0 (d := d_is_whole) rfl
theorem Tx.D_is_from : ∃ fd, FunD K "is_from" "is_from" (defArgs s_is_from) (defBody s_is_from) (defScope s_is_from) (([] : List He.Dv).map (He.Dv.v K)) (([] : List (Str × He.Dv)).map fun q => (q.1, q.2.v K)) (He.ga K "is_from") fd := T.s.t.d.def_ 1 (d := d_is_from) rfl
theorem Tx.D_is_between : ∃ fd, FunD K "is_between" "is_between" (defArgs s_is_between) (defBody s_is_between) (defScope s_is_between) (([] : List He.Dv).map (He.Dv.v K)) (([] : List (Str × He.Dv)).map fun q => (q.1, q.2.v K)) (He.ga K "is_between") fd := T.s.t.d.def_ 2 (d := d_is_between) rfl
theorem Tx.D_is_capacity : ∃ fd, FunD K "is_capacity" "is_capacity" (defArgs s_is_capacity) (defBody s_is_capacity) (defScope s_is_capacity) (([] : List He.Dv).map (He.Dv.v K)) (([] : List (Str × He.Dv)).map fun q => (q.1, q.2.v K)) (He.ga K "is_capacity") fd := T.s.t.d.def_ 3 (d := d_is_capacity) rfl
theorem Tx.D_is_name : ∃ fd, FunD K "is_name" "is_name" (defArgs s_is_name) (defBody s_is_name) (defScope s_is_name) (([] : List He.Dv).map (He.Dv.v K)) (([] : List (Str × He.Dv)).map fun q => (q.1, q.2.v K)) (He.ga K "is_name") fd := T.s.t.d.def_ 4 (d := d_is_name) rfl
theorem Tx.D_is_run : ∃ fd, FunD K "is_run" "is_run" (defArgs s_is_run) (defBody s_is_run) (defScope s_is_run) (([] : List He.Dv).map (He.Dv.v K)) (([] : List (Str × He.Dv)).map fun q => (q.1, q.2.v K)) (He.ga K "is_run") fd := T.s.t.d.def_ 5 (d := d_is_run) rfl
theorem Tx.D_first_invalid : ∃ fd, FunD K "first_invalid" "first_invalid" (defArgs s_first_invalid) (defBody s_first_invalid) (defScope s_first_invalid) (([] : List He.Dv).map (He.Dv.v K)) (([] : List (Str × He.Dv)).map fun q => (q.1, q.2.v K)) (He.ga K "first_invalid") fd := T.s.t.d.def_ 6 (d := d_first_invalid) rfl
theorem Tx.D_check_capacity : ∃ fd, FunD K "check_capacity" "check_capacity" (defArgs s_check_capacity) (defBody s_check_capacity) (defScope s_check_capacity) (([] : List He.Dv).map (He.Dv.v K)) (([] : List (Str × He.Dv)).map fun q => (q.1, q.2.v K)) (He.ga K "check_capacity") fd := T.s.t.d.def_ 7 (d := d_check_capacity) rfl
theorem Tx.D_check_name : ∃ fd, FunD K "check_name" "check_name" (defArgs s_check_name) (defBody s_check_name) (defScope s_check_name) (([] : List He.Dv).map (He.Dv.v K)) (([] : List (Str × He.Dv)).map fun q => (q.1, q.2.v K)) (He.ga K "check_name") fd := T.s.t.d.def_ 8 (d := d_check_name) rfl
theorem Tx.D_table_of : ∃ fd, FunD K "table_of" "table_of" (defArgs s_table_of) (defBody s_table_of) (defScope s_table_of) (([] : List He.Dv).map (He.Dv.v K)) (([] : List (Str × He.Dv)).map fun q => (q.1, q.2.v K)) (He.ga K "table_of") fd := T.s.t.d.def_ 9 (d := d_table_of) rfl
theorem Tx.D_counts_of_table : ∃ fd, FunD K "counts_of_table" "counts_of_table" (defArgs s_counts_of_table) (defBody s_counts_of_table) (defScope s_counts_of_table) (([] : List He.Dv).map (He.Dv.v K)) (([] : List (Str × He.Dv)).map fun q => (q.1, q.2.v K)) (He.ga K "counts_of_table") fd := T.s.t.d.def_ 10 (d := d_counts_of_table) rfl
theorem Tx.D_first_no_order : ∃ fd, FunD K "first_no_order" "first_no_order" (defArgs s_first_no_order) (defBody s_first_no_order) (defScope s_first_no_order) (([] : List He.Dv).map (He.Dv.v K)) (([] : List (Str × He.Dv)).map fun q => (q.1, q.2.v K)) (He.ga K "first_no_order") fd := T.s.t.d.def_ 11 (d := d_first_no_order) rfl
theorem Tx.D_check_order : ∃ fd, FunD K "check_order" "check_order" (defArgs s_check_order) (defBody s_check_order) (defScope s_check_order) (([] : List He.Dv).map (He.Dv.v K)) (([] : List (Str × He.Dv)).map fun q => (q.1, q.2.v K)) (He.ga K "check_order") fd := T.s.t.d.def_ 12 (d := d_check_order) rfl
theorem Tx.D_counts_text : ∃ fd, FunD K "counts_text" "counts_text" (defArgs s_counts_text) (defBody s_counts_text) (defScope s_counts_text) (([] : List He.Dv).map (He.Dv.v K)) (([] : List (Str × He.Dv)).map fun q => (q.1, q.2.v K)) (He.ga K "counts_text") fd := T.s.t.d.def_ 13 (d := d_counts_text) rfl
theorem Tx.D_Summary___init__ : ∃ fd, FunD K "__init__" "Summary.__init__" (defArgs s_Summary___init__) (defBody s_Summary___init__) (defScope s_Summary___init__) (([.adr (He.dflAt ("Summary", some "__init__") 0)] : List He.Dv).map (He.Dv.v K)) (([] : List (Str × He.Dv)).map fun q => (q.1, q.2.v K)) (He.ma K (He.ga K "Summary") "__init__") fd := T.s.t.d.def_ 14 (d := d_Summary___init__) rfl
theorem Tx.D_Summary___eq__ : ∃ fd, FunD K "__eq__" "Summary.__eq__" (defArgs s_Summary___eq__) (defBody s_Summary___eq__) (defScope s_Summary___eq__) (([] : List He.Dv).map (He.Dv.v K)) (([] : List (Str × He.Dv)).map fun q => (q.1, q.2.v K)) (He.ma K (He.ga K "Summary") "__eq__") fd := T.s.t.d.def_ 15 (d := d_Summary___eq__) rfl
theorem Tx.D_Summary___len__ : ∃ fd, FunD K "__len__" "Summary.__len__" (defArgs s_Summary___len__) (defBody s_Summary___len__) (defScope s_Summary___len__) (([] : List He.Dv).map (He.Dv.v K)) (([] : List (Str × He.Dv)).map fun q => (q.1, q.2.v K)) (He.ma K (He.ga K "Summary") "__len__") fd := T.s.t.d.def_ 16 (d := d_Summary___len__) rfl
theorem Tx.D_Summary___str__ : ∃ fd, FunD K "__str__" "Summary.__str__" (defArgs s_Summary___str__) (defBody s_Summary___str__) (defScope s_Summary___str__) (([] : List He.Dv).map (He.Dv.v K)) (([] : List (Str × He.Dv)).map fun q => (q.1, q.2.v K)) (He.ma K (He.ga K "Summary") "__str__") fd := T.s.t.d.def_ 17 (d := d_Summary___str__) rfl
theorem Tx.D_Summary___repr__ : ∃ fd, FunD K "__repr__" "Summary.__repr__" (defArgs s_Summary___repr__) (defBody s_Summary___repr__) (defScope s_Summary___repr__) (([] : List He.Dv).map (He.Dv.v K)) (([] : List (Str × He.Dv)).map fun q => (q.1, q.2.v K)) (He.ma K (He.ga K "Summary") "__repr__") fd := T.s.t.d.def_ 18 (d := d_Summary___repr__) rfl
theorem Tx.D_Summary_arrive : ∃ fd, FunD K "arrive" "Summary.arrive" (defArgs s_Summary_arrive) (defBody s_Summary_arrive) (defScope s_Summary_arrive) (([.int 1] : List He.Dv).map (He.Dv.v K)) (([] : List (Str × He.Dv)).map fun q => (q.1, q.2.v K)) (He.ma K (He.ga K "Summary") "arrive") fd := T.s.t.d.def_ 19 (d := d_Summary_arrive) rfl
theorem Tx.D_Summary_reductions : ∃ fd, FunD K "reductions" "Summary.reductions" (defArgs s_Summary_reductions) (defBody s_Summary_reductions) (defScope s_Summary_reductions) (([] : List He.Dv).map (He.Dv.v K)) (([] : List (Str × He.Dv)).map fun q => (q.1, q.2.v K)) (He.ma K (He.ga K "Summary") "reductions") fd := T.s.t.d.def_ 20 (d := d_Summary_reductions) rfl
theorem Tx.D_Summary_merged : ∃ fd, FunD K "merged" "Summary.merged" (defArgs s_Summary_merged) (defBody s_Summary_merged) (defScope s_Summary_merged) (([] : List He.Dv).map (He.Dv.v K)) (([] : List (Str × He.Dv)).map fun q => (q.1, q.2.v K)) (He.ma K (He.ga K "Summary") "merged") fd := T.s.t.d.def_ 21 (d := d_Summary_merged) rfl
theorem Tx.D_lowered : ∃ fd, FunD K "lowered" "lowered" (defArgs s_lowered) (defBody s_lowered) (defScope s_lowered) (([] : List He.Dv).map (He.Dv.v K)) (([] : List (Str × He.Dv)).map fun q => (q.1, q.2.v K)) (He.ga K "lowered") fd := T.s.t.d.def_ 22 (d := d_lowered) rfl
theorem Tx.D_arrived : ∃ fd, FunD K "arrived" "arrived" (defArgs s_arrived) (defBody s_arrived) (defScope s_arrived) (([] : List He.Dv).map (He.Dv.v K)) (([] : List (Str × He.Dv)).map fun q => (q.1, q.2.v K)) (He.ga K "arrived") fd := T.s.t.d.def_ 23 (d := d_arrived) rfl
theorem Tx.D_played : ∃ fd, FunD K "played" "played" (defArgs s_played) (defBody s_played) (defScope s_played) (([] : List He.Dv).map (He.Dv.v K)) (([] : List (Str × He.Dv)).map fun q => (q.1, q.2.v K)) (He.ga K "played") fd := T.s.t.d.def_ 24 (d := d_played) rfl
theorem Tx.D_is_summary : ∃ fd, FunD K "is_summary" "is_summary" (defArgs s_is_summary) (defBody s_is_summary) (defScope s_is_summary) (([] : List He.Dv).map (He.Dv.v K)) (([] : List (Str × He.Dv)).map fun q => (q.1, q.2.v K)) (He.ga K "is_summary") fd := T.s.t.d.def_ 25 (d := d_is_summary) rfl
theorem Tx.D_check_summary : ∃ fd, FunD K "check_summary" "check_summary" (defArgs s_check_summary) (defBody s_check_summary) (defScope s_check_summary) (([] : List He.Dv).map (He.Dv.v K)) (([] : List (Str × He.Dv)).map fun q => (q.1, q.2.v K)) (He.ga K "check_summary") fd := T.s.t.d.def_ 26 (d := d_check_summary) rfl
theorem Tx.D_is_action : ∃ fd, FunD K "is_action" "is_action" (defArgs s_is_action) (defBody s_is_action) (defScope s_is_action) (([] : List He.Dv).map (He.Dv.v K)) (([] : List (Str × He.Dv)).map fun q => (q.1, q.2.v K)) (He.ga K "is_action") fd := T.s.t.d.def_ 27 (d := d_is_action) rfl
theorem Tx.D_check_actions : ∃ fd, FunD K "check_actions" "check_actions" (defArgs s_check_actions) (defBody s_check_actions) (defScope s_check_actions) (([] : List He.Dv).map (He.Dv.v K)) (([] : List (Str × He.Dv)).map fun q => (q.1, q.2.v K)) (He.ga K "check_actions") fd := T.s.t.d.def_ 28 (d := d_check_actions) rfl
theorem Tx.D_check_index : ∃ fd, FunD K "check_index" "check_index" (defArgs s_check_index) (defBody s_check_index) (defScope s_check_index) (([] : List He.Dv).map (He.Dv.v K)) (([] : List (Str × He.Dv)).map fun q => (q.1, q.2.v K)) (He.ga K "check_index") fd := T.s.t.d.def_ 29 (d := d_check_index) rfl
theorem Tx.D_check_run : ∃ fd, FunD K "check_run" "check_run" (defArgs s_check_run) (defBody s_check_run) (defScope s_check_run) (([] : List He.Dv).map (He.Dv.v K)) (([] : List (Str × He.Dv)).map fun q => (q.1, q.2.v K)) (He.ga K "check_run") fd := T.s.t.d.def_ 30 (d := d_check_run) rfl
theorem Tx.D_check_same : ∃ fd, FunD K "check_same" "check_same" (defArgs s_check_same) (defBody s_check_same) (defScope s_check_same) (([] : List He.Dv).map (He.Dv.v K)) (([] : List (Str × He.Dv)).map fun q => (q.1, q.2.v K)) (He.ga K "check_same") fd := T.s.t.d.def_ 31 (d := d_check_same) rfl
theorem Tx.D_more_rows : ∃ fd, FunD K "more_rows" "more_rows" (defArgs s_more_rows) (defBody s_more_rows) (defScope s_more_rows) (([] : List He.Dv).map (He.Dv.v K)) (([] : List (Str × He.Dv)).map fun q => (q.1, q.2.v K)) (He.ga K "more_rows") fd := T.s.t.d.def_ 32 (d := d_more_rows) rfl
theorem Tx.D_state_after : ∃ fd, FunD K "state_after" "state_after" (defArgs s_state_after) (defBody s_state_after) (defScope s_state_after) (([] : List He.Dv).map (He.Dv.v K)) (([] : List (Str × He.Dv)).map fun q => (q.1, q.2.v K)) (He.ga K "state_after") fd := T.s.t.d.def_ 33 (d := d_state_after) rfl
theorem Tx.D_current_of : ∃ fd, FunD K "current_of" "current_of" (defArgs s_current_of) (defBody s_current_of) (defScope s_current_of) (([] : List He.Dv).map (He.Dv.v K)) (([] : List (Str × He.Dv)).map fun q => (q.1, q.2.v K)) (He.ga K "current_of") fd := T.s.t.d.def_ 34 (d := d_current_of) rfl
theorem Tx.D_Collector___init__ : ∃ fd, FunD K "__init__" "Collector.__init__" (defArgs s_Collector___init__) (defBody s_Collector___init__) (defScope s_Collector___init__) (([] : List He.Dv).map (He.Dv.v K)) (([] : List (Str × He.Dv)).map fun q => (q.1, q.2.v K)) (He.ma K (He.ga K "Collector") "__init__") fd := T.s.t.d.def_ 35 (d := d_Collector___init__) rfl
theorem Tx.D_Collector___eq__ : ∃ fd, FunD K "__eq__" "Collector.__eq__" (defArgs s_Collector___eq__) (defBody s_Collector___eq__) (defScope s_Collector___eq__) (([] : List He.Dv).map (He.Dv.v K)) (([] : List (Str × He.Dv)).map fun q => (q.1, q.2.v K)) (He.ma K (He.ga K "Collector") "__eq__") fd := T.s.t.d.def_ 36 (d := d_Collector___eq__) rfl
theorem Tx.D_Collector___len__ : ∃ fd, FunD K "__len__" "Collector.__len__" (defArgs s_Collector___len__) (defBody s_Collector___len__) (defScope s_Collector___len__) (([] : List He.Dv).map (He.Dv.v K)) (([] : List (Str × He.Dv)).map fun q => (q.1, q.2.v K)) (He.ma K (He.ga K "Collector") "__len__") fd := T.s.t.d.def_ 37 (d := d_Collector___len__) rfl
theorem Tx.D_Collector___str__ : ∃ fd, FunD K "__str__" "Collector.__str__" (defArgs s_Collector___str__) (defBody s_Collector___str__) (defScope s_Collector___str__) (([] : List He.Dv).map (He.Dv.v K)) (([] : List (Str × He.Dv)).map fun q => (q.1, q.2.v K)) (He.ma K (He.ga K "Collector") "__str__") fd := T.s.t.d.def_ 38 (d := d_Collector___str__) rfl
theorem Tx.D_Collector___repr__ : ∃ fd, FunD K "__repr__" "Collector.__repr__" (defArgs s_Collector___repr__) (defBody s_Collector___repr__) (defScope s_Collector___repr__) (([] : List He.Dv).map (He.Dv.v K)) (([] : List (Str × He.Dv)).map fun q => (q.1, q.2.v K)) (He.ma K (He.ga K "Collector") "__repr__") fd := T.s.t.d.def_ 39 (d := d_Collector___repr__) rfl
theorem Tx.D_Collector_start : ∃ fd, FunD K "start" "Collector.start" (defArgs s_Collector_start) (defBody s_Collector_start) (defScope s_Collector_start) (([] : List He.Dv).map (He.Dv.v K)) (([] : List (Str × He.Dv)).map fun q => (q.1, q.2.v K)) (He.ma K (He.ga K "Collector") "start") fd := T.s.t.d.def_ 40 (d := d_Collector_start) rfl
theorem Tx.D_Collector_entries : ∃ fd, FunD K "entries" "Collector.entries" (defArgs s_Collector_entries) (defBody s_Collector_entries) (defScope s_Collector_entries) (([] : List He.Dv).map (He.Dv.v K)) (([] : List (Str × He.Dv)).map fun q => (q.1, q.2.v K)) (He.ma K (He.ga K "Collector") "entries") fd := T.s.t.d.def_ 41 (d := d_Collector_entries) rfl
theorem Tx.D_Collector_current : ∃ fd, FunD K "current" "Collector.current" (defArgs s_Collector_current) (defBody s_Collector_current) (defScope s_Collector_current) (([] : List He.Dv).map (He.Dv.v K)) (([] : List (Str × He.Dv)).map fun q => (q.1, q.2.v K)) (He.ma K (He.ga K "Collector") "current") fd := T.s.t.d.def_ 42 (d := d_Collector_current) rfl
theorem Tx.D_Collector_history : ∃ fd, FunD K "history" "Collector.history" (defArgs s_Collector_history) (defBody s_Collector_history) (defScope s_Collector_history) (([] : List He.Dv).map (He.Dv.v K)) (([] : List (Str × He.Dv)).map fun q => (q.1, q.2.v K)) (He.ma K (He.ga K "Collector") "history") fd := T.s.t.d.def_ 43 (d := d_Collector_history) rfl
theorem Tx.D_Collector_arrived : ∃ fd, FunD K "arrived" "Collector.arrived" (defArgs s_Collector_arrived) (defBody s_Collector_arrived) (defScope s_Collector_arrived) (([] : List He.Dv).map (He.Dv.v K)) (([] : List (Str × He.Dv)).map fun q => (q.1, q.2.v K)) (He.ma K (He.ga K "Collector") "arrived") fd := T.s.t.d.def_ 44 (d := d_Collector_arrived) rfl
theorem Tx.D_Collector_change : ∃ fd, FunD K "change" "Collector.change" (defArgs s_Collector_change) (defBody s_Collector_change) (defScope s_Collector_change) (([] : List He.Dv).map (He.Dv.v K)) (([] : List (Str × He.Dv)).map fun q => (q.1, q.2.v K)) (He.ma K (He.ga K "Collector") "change") fd := T.s.t.d.def_ 45 (d := d_Collector_change) rfl
theorem Tx.D_Collector_do : ∃ fd, FunD K "do" "Collector.do" (defArgs s_Collector_do) (defBody s_Collector_do) (defScope s_Collector_do) (([] : List He.Dv).map (He.Dv.v K)) (([] : List (Str × He.Dv)).map fun q => (q.1, q.2.v K)) (He.ma K (He.ga K "Collector") "do") fd := T.s.t.d.def_ 46 (d := d_Collector_do) rfl
theorem Tx.D_Collector_arrive : ∃ fd, FunD K "arrive" "Collector.arrive" (defArgs s_Collector_arrive) (defBody s_Collector_arrive) (defScope s_Collector_arrive) (([.int 1] : List He.Dv).map (He.Dv.v K)) (([] : List (Str × He.Dv)).map fun q => (q.1, q.2.v K)) (He.ma K (He.ga K "Collector") "arrive") fd := T.s.t.d.def_ 47 (d := d_Collector_arrive) rfl
theorem Tx.D_Collector_merge : ∃ fd, FunD K "merge" "Collector.merge" (defArgs s_Collector_merge) (defBody s_Collector_merge) (defScope s_Collector_merge) (([] : List He.Dv).map (He.Dv.v K)) (([] : List (Str × He.Dv)).map fun q => (q.1, q.2.v K)) (He.ma K (He.ga K "Collector") "merge") fd := T.s.t.d.def_ 48 (d := d_Collector_merge) rfl
theorem Tx.D_Collector_insert_at : ∃ fd, FunD K "insert_at" "Collector.insert_at" (defArgs s_Collector_insert_at) (defBody s_Collector_insert_at) (defScope s_Collector_insert_at) (([.int 1] : List He.Dv).map (He.Dv.v K)) (([] : List (Str × He.Dv)).map fun q => (q.1, q.2.v K)) (He.ma K (He.ga K "Collector") "insert_at") fd := T.s.t.d.def_ 49 (d := d_Collector_insert_at) rfl
theorem Tx.D_Collector_restart : ∃ fd, FunD K "restart" "Collector.restart" (defArgs s_Collector_restart) (defBody s_Collector_restart) (defScope s_Collector_restart) (([] : List He.Dv).map (He.Dv.v K)) (([] : List (Str × He.Dv)).map fun q => (q.1, q.2.v K)) (He.ma K (He.ga K "Collector") "restart") fd := T.s.t.d.def_ 50 (d := d_Collector_restart) rfl
theorem Tx.D_Collector_do_all : ∃ fd, FunD K "do_all" "Collector.do_all" (defArgs s_Collector_do_all) (defBody s_Collector_do_all) (defScope s_Collector_do_all) (([] : List He.Dv).map (He.Dv.v K)) (([("observer", .non)] : List (Str × He.Dv)).map fun q => (q.1, q.2.v K)) (He.ma K (He.ga K "Collector") "do_all") fd := T.s.t.d.def_ 51 (d := d_Collector_do_all) rfl
theorem Tx.D_Collector_preview : ∃ fd, FunD K "preview" "Collector.preview" (defArgs s_Collector_preview) (defBody s_Collector_preview) (defScope s_Collector_preview) (([] : List He.Dv).map (He.Dv.v K)) (([] : List (Str × He.Dv)).map fun q => (q.1, q.2.v K)) (He.ma K (He.ga K "Collector") "preview") fd := T.s.t.d.def_ 52 (d := d_Collector_preview) rfl
theorem Tx.D_Collector_undo : ∃ fd, FunD K "undo" "Collector.undo" (defArgs s_Collector_undo) (defBody s_Collector_undo) (defScope s_Collector_undo) (([] : List He.Dv).map (He.Dv.v K)) (([] : List (Str × He.Dv)).map fun q => (q.1, q.2.v K)) (He.ma K (He.ga K "Collector") "undo") fd := T.s.t.d.def_ 53 (d := d_Collector_undo) rfl
theorem Tx.D_late_change : ∃ fd, FunD K "late_change" "late_change" (defArgs s_late_change) (defBody s_late_change) (defScope s_late_change) (([] : List He.Dv).map (He.Dv.v K)) (([] : List (Str × He.Dv)).map fun q => (q.1, q.2.v K)) (He.ga K "late_change") fd := T.s.t.d.def_ 54 (d := d_late_change) rfl
theorem Tx.D__law_cell : ∃ fd, FunD K "_law_cell" "_law_cell" (defArgs s__law_cell) (defBody s__law_cell) (defScope s__law_cell) (([] : List He.Dv).map (He.Dv.v K)) (([] : List (Str × He.Dv)).map fun q => (q.1, q.2.v K)) (He.ga K "_law_cell") fd := T.s.t.d.def_ 55 (d := d__law_cell) rfl
theorem Tx.D__law_pool : ∃ fd, FunD K "_law_pool" "_law_pool" (defArgs s__law_pool) (defBody s__law_pool) (defScope s__law_pool) (([] : List He.Dv).map (He.Dv.v K)) (([] : List (Str × He.Dv)).map fun q => (q.1, q.2.v K)) (He.ga K "_law_pool") fd := T.s.t.d.def_ 56 (d := d__law_pool) rfl
theorem Tx.D__law_draw : ∃ fd, FunD K "_law_draw" "_law_draw" (defArgs s__law_draw) (defBody s__law_draw) (defScope s__law_draw) (([] : List He.Dv).map (He.Dv.v K)) (([] : List (Str × He.Dv)).map fun q => (q.1, q.2.v K)) (He.ga K "_law_draw") fd := T.s.t.d.def_ 57 (d := d__law_draw) rfl
theorem Tx.D__law_words : ∃ fd, FunD K "_law_words" "_law_words" (defArgs s__law_words) (defBody s__law_words) (defScope s__law_words) (([] : List He.Dv).map (He.Dv.v K)) (([] : List (Str × He.Dv)).map fun q => (q.1, q.2.v K)) (He.ga K "_law_words") fd := T.s.t.d.def_ 58 (d := d__law_words) rfl
theorem Tx.D__law_often : ∃ fd, FunD K "_law_often" "_law_often" (defArgs s__law_often) (defBody s__law_often) (defScope s__law_often) (([] : List He.Dv).map (He.Dv.v K)) (([] : List (Str × He.Dv)).map fun q => (q.1, q.2.v K)) (He.ga K "_law_often") fd := T.s.t.d.def_ 59 (d := d__law_often) rfl
theorem Tx.D__law_bag : ∃ fd, FunD K "_law_bag" "_law_bag" (defArgs s__law_bag) (defBody s__law_bag) (defScope s__law_bag) (([] : List He.Dv).map (He.Dv.v K)) (([] : List (Str × He.Dv)).map fun q => (q.1, q.2.v K)) (He.ga K "_law_bag") fd := T.s.t.d.def_ 60 (d := d__law_bag) rfl
theorem Tx.D__law_path : ∃ fd, FunD K "_law_path" "_law_path" (defArgs s__law_path) (defBody s__law_path) (defScope s__law_path) (([] : List He.Dv).map (He.Dv.v K)) (([] : List (Str × He.Dv)).map fun q => (q.1, q.2.v K)) (He.ga K "_law_path") fd := T.s.t.d.def_ 61 (d := d__law_path) rfl
theorem Tx.D__law_run : ∃ fd, FunD K "_law_run" "_law_run" (defArgs s__law_run) (defBody s__law_run) (defScope s__law_run) (([] : List He.Dv).map (He.Dv.v K)) (([] : List (Str × He.Dv)).map fun q => (q.1, q.2.v K)) (He.ga K "_law_run") fd := T.s.t.d.def_ 62 (d := d__law_run) rfl
theorem Tx.D__law_played : ∃ fd, FunD K "_law_played" "_law_played" (defArgs s__law_played) (defBody s__law_played) (defScope s__law_played) (([] : List He.Dv).map (He.Dv.v K)) (([] : List (Str × He.Dv)).map fun q => (q.1, q.2.v K)) (He.ga K "_law_played") fd := T.s.t.d.def_ 63 (d := d__law_played) rfl
theorem Tx.D__law_flat : ∃ fd, FunD K "_law_flat" "_law_flat" (defArgs s__law_flat) (defBody s__law_flat) (defScope s__law_flat) (([] : List He.Dv).map (He.Dv.v K)) (([] : List (Str × He.Dv)).map fun q => (q.1, q.2.v K)) (He.ga K "_law_flat") fd := T.s.t.d.def_ 64 (d := d__law_flat) rfl
theorem Tx.D__law_held : ∃ fd, FunD K "_law_held" "_law_held" (defArgs s__law_held) (defBody s__law_held) (defScope s__law_held) (([] : List He.Dv).map (He.Dv.v K)) (([] : List (Str × He.Dv)).map fun q => (q.1, q.2.v K)) (He.ga K "_law_held") fd := T.s.t.d.def_ 65 (d := d__law_held) rfl
theorem Tx.D__law_merged : ∃ fd, FunD K "_law_merged" "_law_merged" (defArgs s__law_merged) (defBody s__law_merged) (defScope s__law_merged) (([] : List He.Dv).map (He.Dv.v K)) (([] : List (Str × He.Dv)).map fun q => (q.1, q.2.v K)) (He.ga K "_law_merged") fd := T.s.t.d.def_ 66 (d := d__law_merged) rfl
theorem Tx.D__law_text : ∃ fd, FunD K "_law_text" "_law_text" (defArgs s__law_text) (defBody s__law_text) (defScope s__law_text) (([] : List He.Dv).map (He.Dv.v K)) (([] : List (Str × He.Dv)).map fun q => (q.1, q.2.v K)) (He.ga K "_law_text") fd := T.s.t.d.def_ 67 (d := d__law_text) rfl
theorem Tx.D__law_now : ∃ fd, FunD K "_law_now" "_law_now" (defArgs s__law_now) (defBody s__law_now) (defScope s__law_now) (([] : List He.Dv).map (He.Dv.v K)) (([] : List (Str × He.Dv)).map fun q => (q.1, q.2.v K)) (He.ga K "_law_now") fd := T.s.t.d.def_ 68 (d := d__law_now) rfl
theorem Tx.D__law_plain : ∃ fd, FunD K "_law_plain" "_law_plain" (defArgs s__law_plain) (defBody s__law_plain) (defScope s__law_plain) (([] : List He.Dv).map (He.Dv.v K)) (([] : List (Str × He.Dv)).map fun q => (q.1, q.2.v K)) (He.ga K "_law_plain") fd := T.s.t.d.def_ 69 (d := d__law_plain) rfl
theorem Tx.D__law_done : ∃ fd, FunD K "_law_done" "_law_done" (defArgs s__law_done) (defBody s__law_done) (defScope s__law_done) (([] : List He.Dv).map (He.Dv.v K)) (([] : List (Str × He.Dv)).map fun q => (q.1, q.2.v K)) (He.ga K "_law_done") fd := T.s.t.d.def_ 70 (d := d__law_done) rfl
theorem Tx.D__law_deed : ∃ fd, FunD K "_law_deed" "_law_deed" (defArgs s__law_deed) (defBody s__law_deed) (defScope s__law_deed) (([] : List He.Dv).map (He.Dv.v K)) (([] : List (Str × He.Dv)).map fun q => (q.1, q.2.v K)) (He.ga K "_law_deed") fd := T.s.t.d.def_ 71 (d := d__law_deed) rfl
theorem Tx.D__law_deeds : ∃ fd, FunD K "_law_deeds" "_law_deeds" (defArgs s__law_deeds) (defBody s__law_deeds) (defScope s__law_deeds) (([] : List He.Dv).map (He.Dv.v K)) (([] : List (Str × He.Dv)).map fun q => (q.1, q.2.v K)) (He.ga K "_law_deeds") fd := T.s.t.d.def_ 72 (d := d__law_deeds) rfl
theorem Tx.D__law_rows_right : ∃ fd, FunD K "_law_rows_right" "_law_rows_right" (defArgs s__law_rows_right) (defBody s__law_rows_right) (defScope s__law_rows_right) (([] : List He.Dv).map (He.Dv.v K)) (([] : List (Str × He.Dv)).map fun q => (q.1, q.2.v K)) (He.ga K "_law_rows_right") fd := T.s.t.d.def_ 73 (d := d__law_rows_right) rfl
theorem Tx.D__law_told_right : ∃ fd, FunD K "_law_told_right" "_law_told_right" (defArgs s__law_told_right) (defBody s__law_told_right) (defScope s__law_told_right) (([] : List He.Dv).map (He.Dv.v K)) (([] : List (Str × He.Dv)).map fun q => (q.1, q.2.v K)) (He.ga K "_law_told_right") fd := T.s.t.d.def_ 74 (d := d__law_told_right) rfl
theorem Tx.D__law_drawn : ∃ fd, FunD K "_law_drawn" "_law_drawn" (defArgs s__law_drawn) (defBody s__law_drawn) (defScope s__law_drawn) (([] : List He.Dv).map (He.Dv.v K)) (([] : List (Str × He.Dv)).map fun q => (q.1, q.2.v K)) (He.ga K "_law_drawn") fd := T.s.t.d.def_ 75 (d := d__law_drawn) rfl
theorem Tx.D__law_change : ∃ fd, FunD K "_law_change" "_law_change" (defArgs s__law_change) (defBody s__law_change) (defScope s__law_change) (([] : List He.Dv).map (He.Dv.v K)) (([] : List (Str × He.Dv)).map fun q => (q.1, q.2.v K)) (He.ga K "_law_change") fd := T.s.t.d.def_ 76 (d := d__law_change) rfl
theorem Tx.D__law_changed : ∃ fd, FunD K "_law_changed" "_law_changed" (defArgs s__law_changed) (defBody s__law_changed) (defScope s__law_changed) (([] : List He.Dv).map (He.Dv.v K)) (([] : List (Str × He.Dv)).map fun q => (q.1, q.2.v K)) (He.ga K "_law_changed") fd := T.s.t.d.def_ 77 (d := d__law_changed) rfl
theorem Tx.D__law_runs_right : ∃ fd, FunD K "_law_runs_right" "_law_runs_right" (defArgs s__law_runs_right) (defBody s__law_runs_right) (defScope s__law_runs_right) (([] : List He.Dv).map (He.Dv.v K)) (([] : List (Str × He.Dv)).map fun q => (q.1, q.2.v K)) (He.ga K "_law_runs_right") fd := T.s.t.d.def_ 78 (d := d__law_runs_right) rfl
theorem Tx.D__law_merges_right : ∃ fd, FunD K "_law_merges_right" "_law_merges_right" (defArgs s__law_merges_right) (defBody s__law_merges_right) (defScope s__law_merges_right) (([] : List He.Dv).map (He.Dv.v K)) (([] : List (Str × He.Dv)).map fun q => (q.1, q.2.v K)) (He.ga K "_law_merges_right") fd := T.s.t.d.def_ 79 (d := d__law_merges_right) rfl
theorem Tx.D__law_right : ∃ fd, FunD K "_law_right" "_law_right" (defArgs s__law_right) (defBody s__law_right) (defScope s__law_right) (([] : List He.Dv).map (He.Dv.v K)) (([] : List (Str × He.Dv)).map fun q => (q.1, q.2.v K)) (He.ga K "_law_right") fd := T.s.t.d.def_ 80 (d := d__law_right) rfl
theorem Tx.D_law : ∃ fd, FunD K "law" "law" (defArgs s_law) (defBody s_law) (defScope s_law) (([] : List He.Dv).map (He.Dv.v K)) (([] : List (Str × He.Dv)).map fun q => (q.1, q.2.v K)) (He.ga K "law") fd := T.s.t.d.def_ 81 (d := d_law) rfl
theorem Tx.x_S_cls : PySem.W.findIn K (.ref (He.ga K "Summary")) "__class__" = some (some (.builtin "object.__class__")) := of_decide_eq_true (T.exAll _ (List.mem_of_getElem? (i := 0) rfl))
theorem Tx.x_S_ne : PySem.W.findIn K (.ref (He.ga K "Summary")) "__ne__" = some (some (.builtin "object.__ne__")) := of_decide_eq_true (T.exAll _ (List.mem_of_getElem? (i := 1) rfl))
theorem Tx.x_S_mro : PySem.W.mroIn K (He.ga K "Summary") (.type "object") = some true := of_decide_eq_true (T.exAll _ (List.mem_of_getElem? (i := 2) rfl))
theorem Tx.x_S_tup : PySem.W.kitOne K (.type "tuple") (.ref (He.ga K "Summary")) = some false := of_decide_eq_true (T.exAll _ (List.mem_of_getElem? (i := 3) rfl))
theorem Tx.x_S_lst : PySem.W.kitOne K (.type "list") (.ref (He.ga K "Summary")) = some false := of_decide_eq_true (T.exAll _ (List.mem_of_getElem? (i := 4) rfl))
theorem Tx.x_S_self : PySem.W.kitOne K (.ref (He.ga K "Summary")) (.ref (He.ga K "Summary")) = some true := of_decide_eq_true (T.exAll _ (List.mem_of_getElem? (i := 5) rfl))
theorem Tx.x_S_isl : PySem.W.kitOne K (.ref (He.ga K "Summary")) (.type "list") = some false := of_decide_eq_true (T.exAll _ (List.mem_of_getElem? (i := 6) rfl))
theorem Tx.x_S_ist : PySem.W.kitOne K (.ref (He.ga K "Summary")) (.type "tuple") = some false := of_decide_eq_true (T.exAll _ (List.mem_of_getElem? (i := 7) rfl))
theorem Tx.x_C_cls : PySem.W.findIn K (.ref (He.ga K "Collector")) "__class__" = some (some (.builtin "object.__class__")) := of_decide_eq_true (T.exAll _ (List.mem_of_getElem? (i := 8) rfl))
theorem Tx.x_C_ne : PySem.W.findIn K (.ref (He.ga K "Collector")) "__ne__" = some (some (.builtin "object.__ne__")) := of_decide_eq_true (T.exAll _ (List.mem_of_getElem? (i := 9) rfl))
theorem Tx.x_C_mro : PySem.W.mroIn K (He.ga K "Collector") (.type "object") = some true := of_decide_eq_true (T.exAll _ (List.mem_of_getElem? (i := 10) rfl))
theorem Tx.x_C_tup : PySem.W.kitOne K (.type "tuple") (.ref (He.ga K "Collector")) = some false := of_decide_eq_true (T.exAll _ (List.mem_of_getElem? (i := 11) rfl))
theorem Tx.x_C_lst : PySem.W.kitOne K (.type "list") (.ref (He.ga K "Collector")) = some false := of_decide_eq_true (T.exAll _ (List.mem_of_getElem? (i := 12) rfl))
theorem Tx.x_C_self : PySem.W.kitOne K (.ref (He.ga K "Collector")) (.ref (He.ga K "Collector")) = some true := of_decide_eq_true (T.exAll _ (List.mem_of_getElem? (i := 13) rfl))
theorem Tx.x_C_isl : PySem.W.kitOne K (.ref (He.ga K "Collector")) (.type "list") = some false := of_decide_eq_true (T.exAll _ (List.mem_of_getElem? (i := 14) rfl))
theorem Tx.x_C_ist : PySem.W.kitOne K (.ref (He.ga K "Collector")) (.type "tuple") = some false := of_decide_eq_true (T.exAll _ (List.mem_of_getElem? (i := 15) rfl))
theorem Tx.x_empty : ∃ (dd : Option Addr) (its : Array Value) (n : Nat) (sl : Array (Option Value)), K.lookup (He.dflAt ("Summary", some "__init__") 0 K) = some ⟨.type "tuple", dd, .seq its n, sl⟩ ∧ its = #[] := by
  have h := T.exAll _ (List.mem_of_getElem? (i := 16) rfl)
  split at h
  · rename_i dd its n sl e
    exact ⟨dd, its, n, sl, e, Array.isEmpty_iff.mp h⟩
  · cases h
theorem Tx.x_vals : He.valsB K (He.ga K "ACTION_SIZES") [("arrive", .int 3), ("merge", .int 2), ("insert", .int 4), ("remove", .int 2), ("start", .int 2)] = true := T.exAll _ (List.mem_of_getElem? (i := 17) rfl)
theorem Tx.x_tab : ∃ es n, KDict K w (He.ga K "ACTION_SIZES") es n := T.s.t.tab 0 (t := (fun K => He.ga K "ACTION_SIZES", ["arrive", "merge", "insert", "remove", "start"])) rfl
end
/-! ### the names of each def, parameters first -/
abbrev n_is_whole : List Str := ["thing"]
theorem sc_is_whole : FnScope n_is_whole ["thing"] (defScope s_is_whole) := ⟨rfl, rfl, rfl, by decide +kernel, rfl, by decide +kernel, by decide +kernel⟩
abbrev n_is_from : List Str := ["thing", "least"]
theorem sc_is_from : FnScope n_is_from ["thing", "least"] (defScope s_is_from) := ⟨rfl, rfl, rfl, by decide +kernel, rfl, by decide +kernel, by decide +kernel⟩
abbrev n_is_between : List Str := ["thing", "least", "most"]
theorem sc_is_between : FnScope n_is_between ["thing", "least", "most"] (defScope s_is_between) := ⟨rfl, rfl, rfl, by decide +kernel, rfl, by decide +kernel, by decide +kernel⟩
abbrev n_is_capacity : List Str := ["thing"]
theorem sc_is_capacity : FnScope n_is_capacity ["thing"] (defScope s_is_capacity) := ⟨rfl, rfl, rfl, by decide +kernel, rfl, by decide +kernel, by decide +kernel⟩
abbrev n_is_name : List Str := ["thing", "letter"]
theorem sc_is_name : FnScope n_is_name ["thing"] (defScope s_is_name) := ⟨rfl, rfl, rfl, by decide +kernel, rfl, by decide +kernel, by decide +kernel⟩
abbrev n_is_run : List Str := ["thing"]
theorem sc_is_run : FnScope n_is_run ["thing"] (defScope s_is_run) := ⟨rfl, rfl, rfl, by decide +kernel, rfl, by decide +kernel, by decide +kernel⟩
abbrev n_first_invalid : List Str := ["thing", "most", "index", "pair"]
theorem sc_first_invalid : FnScope n_first_invalid ["thing", "most"] (defScope s_first_invalid) := ⟨rfl, rfl, rfl, by decide +kernel, rfl, by decide +kernel, by decide +kernel⟩
abbrev n_check_capacity : List Str := ["thing"]
theorem sc_check_capacity : FnScope n_check_capacity ["thing"] (defScope s_check_capacity) := ⟨rfl, rfl, rfl, by decide +kernel, rfl, by decide +kernel, by decide +kernel⟩
abbrev n_check_name : List Str := ["thing"]
theorem sc_check_name : FnScope n_check_name ["thing"] (defScope s_check_name) := ⟨rfl, rfl, rfl, by decide +kernel, rfl, by decide +kernel, by decide +kernel⟩
abbrev n_table_of : List Str := ["pairs", "found", "name", "count"]
theorem sc_table_of : FnScope n_table_of ["pairs"] (defScope s_table_of) := ⟨rfl, rfl, rfl, by decide +kernel, rfl, by decide +kernel, by decide +kernel⟩
abbrev n_counts_of_table : List Str := ["table", "name"]
theorem sc_counts_of_table : FnScope n_counts_of_table ["table"] (defScope s_counts_of_table) := ⟨rfl, rfl, rfl, by decide +kernel, rfl, by decide +kernel, by decide +kernel⟩
abbrev n_first_no_order : List Str := ["thing", "names", "index", "run"]
theorem sc_first_no_order : FnScope n_first_no_order ["thing"] (defScope s_first_no_order) := ⟨rfl, rfl, rfl, by decide +kernel, rfl, by decide +kernel, by decide +kernel⟩
abbrev n_check_order : List Str := ["thing", "invalid"]
theorem sc_check_order : FnScope n_check_order ["thing"] (defScope s_check_order) := ⟨rfl, rfl, rfl, by decide +kernel, rfl, by decide +kernel, by decide +kernel⟩
abbrev n_counts_text : List Str := ["counts", "name", "count"]
theorem sc_counts_text : FnScope n_counts_text ["counts"] (defScope s_counts_text) := ⟨rfl, rfl, rfl, by decide +kernel, rfl, by decide +kernel, by decide +kernel⟩
abbrev n_Summary___init__ : List Str := ["self", "capacity", "counts", "invalid"]
theorem sc_Summary___init__ : FnScope n_Summary___init__ ["self", "capacity", "counts"] (defScope s_Summary___init__) := ⟨rfl, rfl, rfl, by decide +kernel, rfl, by decide +kernel, by decide +kernel⟩
abbrev n_Summary___eq__ : List Str := ["self", "other"]
theorem sc_Summary___eq__ : FnScope n_Summary___eq__ ["self", "other"] (defScope s_Summary___eq__) := ⟨rfl, rfl, rfl, by decide +kernel, rfl, by decide +kernel, by decide +kernel⟩
abbrev n_Summary___len__ : List Str := ["self"]
theorem sc_Summary___len__ : FnScope n_Summary___len__ ["self"] (defScope s_Summary___len__) := ⟨rfl, rfl, rfl, by decide +kernel, rfl, by decide +kernel, by decide +kernel⟩
abbrev n_Summary___str__ : List Str := ["self"]
theorem sc_Summary___str__ : FnScope n_Summary___str__ ["self"] (defScope s_Summary___str__) := ⟨rfl, rfl, rfl, by decide +kernel, rfl, by decide +kernel, by decide +kernel⟩
abbrev n_Summary___repr__ : List Str := ["self"]
theorem sc_Summary___repr__ : FnScope n_Summary___repr__ ["self"] (defScope s_Summary___repr__) := ⟨rfl, rfl, rfl, by decide +kernel, rfl, by decide +kernel, by decide +kernel⟩
abbrev n_Summary_arrive : List Str := ["self", "name", "times"]
theorem sc_Summary_arrive : FnScope n_Summary_arrive ["self", "name", "times"] (defScope s_Summary_arrive) := ⟨rfl, rfl, rfl, by decide +kernel, rfl, by decide +kernel, by decide +kernel⟩
abbrev n_Summary_reductions : List Str := ["self", "order"]
theorem sc_Summary_reductions : FnScope n_Summary_reductions ["self", "order"] (defScope s_Summary_reductions) := ⟨rfl, rfl, rfl, by decide +kernel, rfl, by decide +kernel, by decide +kernel⟩
abbrev n_Summary_merged : List Str := ["self", "other", "table", "ranks", "name", "cut"]
theorem sc_Summary_merged : FnScope n_Summary_merged ["self", "other"] (defScope s_Summary_merged) := ⟨rfl, rfl, rfl, by decide +kernel, rfl, by decide +kernel, by decide +kernel⟩
abbrev n_lowered : List Str := ["table", "step", "name"]
theorem sc_lowered : FnScope n_lowered ["table", "step"] (defScope s_lowered) := ⟨rfl, rfl, rfl, by decide +kernel, rfl, by decide +kernel, by decide +kernel⟩
abbrev n_arrived : List Str := ["capacity", "table", "name", "times", "lost", "step", "known", "after"]
theorem sc_arrived : FnScope n_arrived ["capacity", "table", "name", "times"] (defScope s_arrived) := ⟨rfl, rfl, rfl, by decide +kernel, rfl, by decide +kernel, by decide +kernel⟩
abbrev n_played : List Str := ["capacity", "table", "runs", "lost", "name", "times", "more"]
theorem sc_played : FnScope n_played ["capacity", "table", "runs"] (defScope s_played) := ⟨rfl, rfl, rfl, by decide +kernel, rfl, by decide +kernel, by decide +kernel⟩
abbrev n_is_summary : List Str := ["thing"]
theorem sc_is_summary : FnScope n_is_summary ["thing"] (defScope s_is_summary) := ⟨rfl, rfl, rfl, by decide +kernel, rfl, by decide +kernel, by decide +kernel⟩
abbrev n_check_summary : List Str := ["thing"]
theorem sc_check_summary : FnScope n_check_summary ["thing"] (defScope s_check_summary) := ⟨rfl, rfl, rfl, by decide +kernel, rfl, by decide +kernel, by decide +kernel⟩
abbrev n_is_action : List Str := ["thing"]
theorem sc_is_action : FnScope n_is_action ["thing"] (defScope s_is_action) := ⟨rfl, rfl, rfl, by decide +kernel, rfl, by decide +kernel, by decide +kernel⟩
abbrev n_check_actions : List Str := ["actions", "index", "action"]
theorem sc_check_actions : FnScope n_check_actions ["actions"] (defScope s_check_actions) := ⟨rfl, rfl, rfl, by decide +kernel, rfl, by decide +kernel, by decide +kernel⟩
abbrev n_check_index : List Str := ["index", "most"]
theorem sc_check_index : FnScope n_check_index ["index", "most"] (defScope s_check_index) := ⟨rfl, rfl, rfl, by decide +kernel, rfl, by decide +kernel, by decide +kernel⟩
abbrev n_check_run : List Str := ["name", "times"]
theorem sc_check_run : FnScope n_check_run ["name", "times"] (defScope s_check_run) := ⟨rfl, rfl, rfl, by decide +kernel, rfl, by decide +kernel, by decide +kernel⟩
abbrev n_check_same : List Str := ["capacity", "summary"]
theorem sc_check_same : FnScope n_check_same ["capacity", "summary"] (defScope s_check_same) := ⟨rfl, rfl, rfl, by decide +kernel, rfl, by decide +kernel, by decide +kernel⟩
abbrev n_more_rows : List Str := ["capacity", "rows", "action", "word", "rest", "index", "name", "times"]
theorem sc_more_rows : FnScope n_more_rows ["capacity", "rows", "action"] (defScope s_more_rows) := ⟨rfl, rfl, rfl, by decide +kernel, rfl, by decide +kernel, by decide +kernel⟩
abbrev n_state_after : List Str := ["capacity", "state", "action", "begin", "rows"]
theorem sc_state_after : FnScope n_state_after ["capacity", "state", "action"] (defScope s_state_after) := ⟨rfl, rfl, rfl, by decide +kernel, rfl, by decide +kernel, by decide +kernel⟩
abbrev n_current_of : List Str := ["begin", "rows", "row"]
theorem sc_current_of : FnScope n_current_of ["begin", "rows"] (defScope s_current_of) := ⟨rfl, rfl, rfl, by decide +kernel, rfl, by decide +kernel, by decide +kernel⟩
abbrev n_Collector___init__ : List Str := ["self", "capacity"]
theorem sc_Collector___init__ : FnScope n_Collector___init__ ["self", "capacity"] (defScope s_Collector___init__) := ⟨rfl, rfl, rfl, by decide +kernel, rfl, by decide +kernel, by decide +kernel⟩
abbrev n_Collector___eq__ : List Str := ["self", "other"]
theorem sc_Collector___eq__ : FnScope n_Collector___eq__ ["self", "other"] (defScope s_Collector___eq__) := ⟨rfl, rfl, rfl, by decide +kernel, rfl, by decide +kernel, by decide +kernel⟩
abbrev n_Collector___len__ : List Str := ["self"]
theorem sc_Collector___len__ : FnScope n_Collector___len__ ["self"] (defScope s_Collector___len__) := ⟨rfl, rfl, rfl, by decide +kernel, rfl, by decide +kernel, by decide +kernel⟩
abbrev n_Collector___str__ : List Str := ["self"]
theorem sc_Collector___str__ : FnScope n_Collector___str__ ["self"] (defScope s_Collector___str__) := ⟨rfl, rfl, rfl, by decide +kernel, rfl, by decide +kernel, by decide +kernel⟩
abbrev n_Collector___repr__ : List Str := ["self"]
theorem sc_Collector___repr__ : FnScope n_Collector___repr__ ["self"] (defScope s_Collector___repr__) := ⟨rfl, rfl, rfl, by decide +kernel, rfl, by decide +kernel, by decide +kernel⟩
abbrev n_Collector_start : List Str := ["self"]
theorem sc_Collector_start : FnScope n_Collector_start ["self"] (defScope s_Collector_start) := ⟨rfl, rfl, rfl, by decide +kernel, rfl, by decide +kernel, by decide +kernel⟩
abbrev n_Collector_entries : List Str := ["self"]
theorem sc_Collector_entries : FnScope n_Collector_entries ["self"] (defScope s_Collector_entries) := ⟨rfl, rfl, rfl, by decide +kernel, rfl, by decide +kernel, by decide +kernel⟩
abbrev n_Collector_current : List Str := ["self"]
theorem sc_Collector_current : FnScope n_Collector_current ["self"] (defScope s_Collector_current) := ⟨rfl, rfl, rfl, by decide +kernel, rfl, by decide +kernel, by decide +kernel⟩
abbrev n_Collector_history : List Str := ["self", "action", "state"]
theorem sc_Collector_history : FnScope n_Collector_history ["self"] (defScope s_Collector_history) := ⟨rfl, rfl, rfl, by decide +kernel, rfl, by decide +kernel, by decide +kernel⟩
abbrev n_Collector_arrived : List Str := ["self", "table", "row"]
theorem sc_Collector_arrived : FnScope n_Collector_arrived ["self"] (defScope s_Collector_arrived) := ⟨rfl, rfl, rfl, by decide +kernel, rfl, by decide +kernel, by decide +kernel⟩
abbrev n_Collector_change : List Str := ["self", "action", "state"]
theorem sc_Collector_change : FnScope n_Collector_change ["self", "action"] (defScope s_Collector_change) := ⟨rfl, rfl, rfl, by decide +kernel, rfl, by decide +kernel, by decide +kernel⟩
abbrev n_Collector_do : List Str := ["self", "action"]
theorem sc_Collector_do : FnScope n_Collector_do ["self", "action"] (defScope s_Collector_do) := ⟨rfl, rfl, rfl, by decide +kernel, rfl, by decide +kernel, by decide +kernel⟩
abbrev n_Collector_arrive : List Str := ["self", "name", "times"]
theorem sc_Collector_arrive : FnScope n_Collector_arrive ["self", "name", "times"] (defScope s_Collector_arrive) := ⟨rfl, rfl, rfl, by decide +kernel, rfl, by decide +kernel, by decide +kernel⟩
abbrev n_Collector_merge : List Str := ["self", "summary"]
theorem sc_Collector_merge : FnScope n_Collector_merge ["self", "summary"] (defScope s_Collector_merge) := ⟨rfl, rfl, rfl, by decide +kernel, rfl, by decide +kernel, by decide +kernel⟩
abbrev n_Collector_insert_at : List Str := ["self", "index", "name", "times"]
theorem sc_Collector_insert_at : FnScope n_Collector_insert_at ["self", "index", "name", "times"] (defScope s_Collector_insert_at) := ⟨rfl, rfl, rfl, by decide +kernel, rfl, by decide +kernel, by decide +kernel⟩
abbrev n_Collector_restart : List Str := ["self", "summary"]
theorem sc_Collector_restart : FnScope n_Collector_restart ["self", "summary"] (defScope s_Collector_restart) := ⟨rfl, rfl, rfl, by decide +kernel, rfl, by decide +kernel, by decide +kernel⟩
abbrev n_Collector_do_all : List Str := ["self", "actions", "observer", "begin", "rows", "past", "failed", "index", "action"]
theorem sc_Collector_do_all : FnScope n_Collector_do_all ["self", "actions", "observer"] (defScope s_Collector_do_all) := ⟨rfl, rfl, rfl, by decide +kernel, rfl, by decide +kernel, by decide +kernel⟩
abbrev n_Collector_preview : List Str := ["self", "actions", "state", "action"]
theorem sc_Collector_preview : FnScope n_Collector_preview ["self", "actions"] (defScope s_Collector_preview) := ⟨rfl, rfl, rfl, by decide +kernel, rfl, by decide +kernel, by decide +kernel⟩
abbrev n_Collector_undo : List Str := ["self", "past", "action", "state"]
theorem sc_Collector_undo : FnScope n_Collector_undo ["self"] (defScope s_Collector_undo) := ⟨rfl, rfl, rfl, by decide +kernel, rfl, by decide +kernel, by decide +kernel⟩
abbrev n_late_change : List Str := ["start", "order", "index", "name", "table", "before", "lost", "after", "more_lost", "item"]
theorem sc_late_change : FnScope n_late_change ["start", "order", "index", "name"] (defScope s_late_change) := ⟨rfl, rfl, rfl, by decide +kernel, rfl, by decide +kernel, by decide +kernel⟩
abbrev n__law_cell : List Str := ["_law_script", "_law_k", "_law_state", "_law_cell_here"]
theorem sc__law_cell : FnScope n__law_cell ["_law_script", "_law_k"] (defScope s__law_cell) := ⟨rfl, rfl, rfl, by decide +kernel, rfl, by decide +kernel, by decide +kernel⟩
abbrev n__law_pool : List Str := ["_law_cell_here", "_law_digits"]
theorem sc__law_pool : FnScope n__law_pool ["_law_cell_here"] (defScope s__law_pool) := ⟨rfl, rfl, rfl, by decide +kernel, rfl, by decide +kernel, by decide +kernel⟩
abbrev n__law_draw : List Str := ["_law_pool_here", "_law_many", "_law_state", "_law_digit"]
theorem sc__law_draw : FnScope n__law_draw ["_law_pool_here", "_law_many"] (defScope s__law_draw) := ⟨rfl, rfl, rfl, by decide +kernel, rfl, by decide +kernel, by decide +kernel⟩
abbrev n__law_words : List Str := ["_law_pool_here", "_law_many", "_law_letters", "_law_menu", "_law_way", "_law_begin", "_law_k", "_law_stem", "_law_at"]
theorem sc__law_words : FnScope n__law_words ["_law_pool_here", "_law_many"] (defScope s__law_words) := ⟨rfl, rfl, rfl, by decide +kernel, rfl, by decide +kernel, by decide +kernel⟩
abbrev n__law_often : List Str := ["_law_pool_here", "_law_way"]
theorem sc__law_often : FnScope n__law_often ["_law_pool_here"] (defScope s__law_often) := ⟨rfl, rfl, rfl, by decide +kernel, rfl, by decide +kernel, by decide +kernel⟩
abbrev n__law_bag : List Str := ["_law_pool_here", "_law_words_here", "_law_most", "_law_found", "_law_word"]
theorem sc__law_bag : FnScope n__law_bag ["_law_pool_here", "_law_words_here", "_law_most"] (defScope s__law_bag) := ⟨rfl, rfl, rfl, by decide +kernel, rfl, by decide +kernel, by decide +kernel⟩
abbrev n__law_path : List Str := ["_law_pool_here", "_law_words_here", "_law_many", "_law_most", "_law_found", "_law_turn", "_law_word"]
theorem sc__law_path : FnScope n__law_path ["_law_pool_here", "_law_words_here", "_law_many", "_law_most"] (defScope s__law_path) := ⟨rfl, rfl, rfl, by decide +kernel, rfl, by decide +kernel, by decide +kernel⟩
abbrev n__law_run : List Str := ["_law_width", "_law_held_here", "_law_word", "_law_often_here", "_law_lost", "_law_step", "_law_each", "_law_after"]
theorem sc__law_run : FnScope n__law_run ["_law_width", "_law_held_here", "_law_word", "_law_often_here"] (defScope s__law_run) := ⟨rfl, rfl, rfl, by decide +kernel, rfl, by decide +kernel, by decide +kernel⟩
abbrev n__law_played : List Str := ["_law_width", "_law_held_here", "_law_path_here", "_law_lost", "_law_word", "_law_often_here", "_law_more"]
theorem sc__law_played : FnScope n__law_played ["_law_width", "_law_held_here", "_law_path_here"] (defScope s__law_played) := ⟨rfl, rfl, rfl, by decide +kernel, rfl, by decide +kernel, by decide +kernel⟩
abbrev n__law_flat : List Str := ["_law_held_here", "_law_word"]
theorem sc__law_flat : FnScope n__law_flat ["_law_held_here"] (defScope s__law_flat) := ⟨rfl, rfl, rfl, by decide +kernel, rfl, by decide +kernel, by decide +kernel⟩
abbrev n__law_held : List Str := ["_law_bag_here", "_law_held_here", "_law_word", "_law_many"]
theorem sc__law_held : FnScope n__law_held ["_law_bag_here"] (defScope s__law_held) := ⟨rfl, rfl, rfl, by decide +kernel, rfl, by decide +kernel, by decide +kernel⟩
abbrev n__law_merged : List Str := ["_law_width", "_law_one_bag", "_law_more_bag", "_law_held_here", "_law_word", "_law_many", "_law_ranks", "_law_cut"]
theorem sc__law_merged : FnScope n__law_merged ["_law_width", "_law_one_bag", "_law_more_bag"] (defScope s__law_merged) := ⟨rfl, rfl, rfl, by decide +kernel, rfl, by decide +kernel, by decide +kernel⟩
abbrev n__law_text : List Str := ["_law_bag_here", "_law_parts", "_law_word", "_law_many"]
theorem sc__law_text : FnScope n__law_text ["_law_bag_here"] (defScope s__law_text) := ⟨rfl, rfl, rfl, by decide +kernel, rfl, by decide +kernel, by decide +kernel⟩
abbrev n__law_now : List Str := ["_law_width", "_law_state", "_law_held_here", "_law_row"]
theorem sc__law_now : FnScope n__law_now ["_law_width", "_law_state"] (defScope s__law_now) := ⟨rfl, rfl, rfl, by decide +kernel, rfl, by decide +kernel, by decide +kernel⟩
abbrev n__law_plain : List Str := ["_law_pool_here", "_law_width", "_law_words_here", "_law_size", "_law_way", "_law_word", "_law_place"]
theorem sc__law_plain : FnScope n__law_plain ["_law_pool_here", "_law_width", "_law_words_here", "_law_size"] (defScope s__law_plain) := ⟨rfl, rfl, rfl, by decide +kernel, rfl, by decide +kernel, by decide +kernel⟩
abbrev n__law_done : List Str := ["_law_state", "_law_plain_here", "_law_first", "_law_rows"]
theorem sc__law_done : FnScope n__law_done ["_law_state", "_law_plain_here"] (defScope s__law_done) := ⟨rfl, rfl, rfl, by decide +kernel, rfl, by decide +kernel, by decide +kernel⟩
abbrev n__law_deed : List Str := ["_law_width", "_law_plain_here", "_law_part"]
theorem sc__law_deed : FnScope n__law_deed ["_law_width", "_law_plain_here"] (defScope s__law_deed) := ⟨rfl, rfl, rfl, by decide +kernel, rfl, by decide +kernel, by decide +kernel⟩
abbrev n__law_deeds : List Str := ["_law_width", "_law_plains", "_law_plain_here"]
theorem sc__law_deeds : FnScope n__law_deeds ["_law_width", "_law_plains"] (defScope s__law_deeds) := ⟨rfl, rfl, rfl, by decide +kernel, rfl, by decide +kernel, by decide +kernel⟩
abbrev n__law_rows_right : List Str := ["_law_told", "_law_width", "_law_rows", "_law_row", "_law_due", "_law_good"]
theorem sc__law_rows_right : FnScope n__law_rows_right ["_law_told", "_law_width", "_law_rows"] (defScope s__law_rows_right) := ⟨rfl, rfl, rfl, by decide +kernel, rfl, by decide +kernel, by decide +kernel⟩
abbrev n__law_told_right : List Str := ["_law_box", "_law_width", "_law_state", "_law_now_here", "_law_runs", "_law_row", "_law_told", "_law_sums", "_law_word", "_law_often_here"]
theorem sc__law_told_right : FnScope n__law_told_right ["_law_box", "_law_width", "_law_state"] (defScope s__law_told_right) := ⟨rfl, rfl, rfl, by decide +kernel, rfl, by decide +kernel, by decide +kernel⟩
abbrev n__law_drawn : List Str := ["_law_pool_here", "_law_width", "_law_words_here", "_law_state", "_law_most", "_law_plains", "_law_states", "_law_turn"]
theorem sc__law_drawn : FnScope n__law_drawn ["_law_pool_here", "_law_width", "_law_words_here", "_law_state", "_law_most"] (defScope s__law_drawn) := ⟨rfl, rfl, rfl, by decide +kernel, rfl, by decide +kernel, by decide +kernel⟩
abbrev n__law_change : List Str := ["_law_width", "_law_first", "_law_path_here", "_law_at", "_law_word", "_law_held_here", "_law_later", "_law_higher", "_law_each"]
theorem sc__law_change : FnScope n__law_change ["_law_width", "_law_first", "_law_path_here", "_law_at", "_law_word"] (defScope s__law_change) := ⟨rfl, rfl, rfl, by decide +kernel, rfl, by decide +kernel, by decide +kernel⟩
abbrev n__law_changed : List Str := ["_law_width", "_law_held_here", "_law_change_here", "_law_after", "_law_word", "_law_many"]
theorem sc__law_changed : FnScope n__law_changed ["_law_width", "_law_held_here", "_law_change_here"] (defScope s__law_changed) := ⟨rfl, rfl, rfl, by decide +kernel, rfl, by decide +kernel, by decide +kernel⟩
abbrev n__law_runs_right : List Str := ["_law_pool_here", "_law_width", "_law_words_here", "_law_first", "_law_path_here", "_law_box", "_law_mate", "_law_each", "_law_word", "_law_often_here", "_law_held_here", "_law_at", "_law_change_here", "_law_due", "_law_told"]
theorem sc__law_runs_right : FnScope n__law_runs_right ["_law_pool_here", "_law_width", "_law_words_here"] (defScope s__law_runs_right) := ⟨rfl, rfl, rfl, by decide +kernel, rfl, by decide +kernel, by decide +kernel⟩
abbrev n__law_merges_right : List Str := ["_law_pool_here", "_law_width", "_law_words_here", "_law_plains", "_law_states", "_law_box", "_law_state", "_law_at", "_law_word", "_law_longer", "_law_fresh", "_law_told", "_law_row"]
theorem sc__law_merges_right : FnScope n__law_merges_right ["_law_pool_here", "_law_width", "_law_words_here"] (defScope s__law_merges_right) := ⟨rfl, rfl, rfl, by decide +kernel, rfl, by decide +kernel, by decide +kernel⟩
abbrev n__law_right : List Str := ["_law_pool_here", "_law_width", "_law_words_here"]
theorem sc__law_right : FnScope n__law_right ["_law_pool_here"] (defScope s__law_right) := ⟨rfl, rfl, rfl, by decide +kernel, rfl, by decide +kernel, by decide +kernel⟩
abbrev n_law : List Str := ["_law_script", "_law_k"]
theorem sc_law : FnScope n_law ["_law_script"] (defScope s_law) := ⟨rfl, rfl, rfl, by decide +kernel, rfl, by decide +kernel, by decide +kernel⟩
end Kx
set_option Elab.async false
set_option linter.all false
set_option maxRecDepth 100000
set_option maxHeartbeats 4000000
namespace Kx
open PySem PySem.Spec PyProof.Rows L2
/-! ### frames: what stays of the heap -/
/-- what a call may change in place: a pool (a list of three ints), a Collector -/
def Mu (C : Addr) : HO → Prop
  | .lst [.int _, .int _, .int _] => True
  | .ins c _ _ => c = C
  | _ => False
/-- what is never changed: tuples, locked things, instances of other classes -/
def Ti (C : Addr) : HO → Prop
  | .tup _ => True
  | .frz _ _ => True
  | .ins c _ _ => c ≠ C
  | _ => False
theorem ti_mu {C : Addr} {o : HO} (h : Ti C o) : ¬ Mu C o := fun m => by
  unfold Mu at m
  split at m
  · exact h
  · exact h m
  · exact m
/-- all else stays -/
def Sv (C : Addr) (H H' : Hp) : Prop := ∀ b o, H b = some o → ¬ Mu C o → H' b = some o
/-- what is never changed stays -/
def Tv (C : Addr) (H H' : Hp) : Prop := ∀ b o, H b = some o → Ti C o → H' b = some o
/-- all but a stays -/
def But (a : Addr) (H H' : Hp) : Prop := ∀ b o, H b = some o → b ≠ a → H' b = some o
section
variable {C a p : Addr} {H H1 H2 H' : Hp} {o u : HO}
theorem sm_sv (s : Same H H') : Sv C H H' := fun b o h _ => s b o h
theorem Sv.refl : Sv C H H := fun _ _ h _ => h
theorem Sv.tr (s : Sv C H H1) (t : Sv C H1 H2) : Sv C H H2 := fun b o h m => t b o (s b o h m) m
theorem sv_tv (s : Sv C H H') : Tv C H H' := fun b o h m => s b o h (ti_mu m)
theorem sm_tv (s : Same H H') : Tv C H H' := fun b o h _ => s b o h
theorem Tv.refl : Tv C H H := fun _ _ h _ => h
theorem Tv.tr (s : Tv C H H1) (t : Tv C H1 H2) : Tv C H H2 := fun b o h m => t b o (s b o h m) m
theorem bt_sv (s : But a H H') (h : H a = some o) (m : Mu C o) : Sv C H H' := fun b u e n => s b u e fun z => by
  rw [z, h] at e
  cases e
  exact n m
theorem bt_tv (s : But a H H') (h : H a = some o) (m : ¬ Ti C o) : Tv C H H' := fun b u e n => s b u e fun z => by
  rw [z, h] at e
  cases e
  exact m n
theorem sm_bt (s : Same H H') : But a H H' := fun b o h _ => s b o h
theorem But.refl : But a H H := fun _ _ h _ => h
theorem But.tr (s : But a H H1) (t : But a H1 H2) : But a H H2 := fun b o h m => t b o (s b o h m) m
theorem sm_new (h : H p = none) : Same H (upd H p o) := fun b u e => by
  rw [upd_ne (ne_of_none e h)]
  exact e
theorem Same.nw (s : Same H H') (h : H' p = none) : Same H (upd H' p o) := s.trans (sm_new h)
theorem bt_upd : But a H (upd H a o) := fun b u e n => by
  rw [upd_ne n]
  exact e
theorem tv_upd (h : H a = some u) (m : ¬ Ti C u) : Tv C H (upd H a o) := bt_tv bt_upd h m
theorem tv_dk {kvs : List (Key × V)} (h : H a = some (.dK kvs)) : Tv C H (upd H a o) := tv_upd h fun z => z
theorem tv_ls {xs : List V} (h : H a = some (.lst xs)) : Tv C H (upd H a o) := tv_upd h fun z => z
theorem sm_mut (s : Same H H') (h : H a = none) : Same H (upd H' a o) := fun b u e => by
  rw [upd_ne (ne_of_none e h)]
  exact s b u e
/-- a lock and its end -/
theorem sm_lock {od : Obj} (hd : H a = some u) (s : Same (upd H a (.frz od u)) H') : Same H (upd H' a u) := fun b o e => by
  by_cases hb : b = a
  · rw [hb] at e ⊢
    rw [hd] at e
    cases e
    exact upd_same
  · rw [upd_ne hb]
    exact s b o (by rw [upd_ne hb]; exact e)
end
/-! ### tuples, lists read -/
section
variable {K : PySem.W.Frag} {C a t : Addr} {H H' : Hp} {xs ys : List V}
theorem st_tv (s : Tv C H H') (h : SqT K H a xs) : SqT K H' a xs := by
  rcases h with (h | ⟨o, h⟩) | h
  · exact .inl (.inl (s _ _ h trivial))
  · exact .inl (.inr ⟨o, s _ _ h trivial⟩)
  · exact .inr h
theorem st_sm (s : Same H H') (h : SqT K H a xs) : SqT K H' a xs := st_tv (C := 0) (sm_tv s) h
/-- a tuple's kind -/
theorem ty_tup (h : SqT K H a xs) : TyX K H (.ref a) (.type "tuple") := by
  rcases h with (h | ⟨o, h⟩) | ⟨o, its, n, h1, h2, _⟩
  · exact .base (.tup h)
  · exact .fTuple h
  · exact .kTuple h1 h2
end
/-- relations of a value with a datum that lean on what is never changed -/
structure Stb (C : Addr) {α : Type} (R : Hp → V → α → Prop) : Prop where
  tv : ∀ {H H' : Hp} {v : V} {x : α}, Tv C H H' → R H v x → R H' v x
/-- a tuple of such | a list of such -/
def TupOf (K : PySem.W.Frag) {α : Type} (R : Hp → V → α → Prop) (H : Hp) (v : V) (l : List α) : Prop := ∃ a xs, v = .ref a ∧ SqT K H a xs ∧ Paired (R H) xs l
def LstOf {α : Type} (R : Hp → V → α → Prop) (H : Hp) (v : V) (l : List α) : Prop := ∃ a xs, v = .ref a ∧ H a = some (.lst xs) ∧ Paired (R H) xs l
section
variable {α β : Type} {K : PySem.W.Frag} {C : Addr} {R : Hp → V → α → Prop} {H H' : Hp}
theorem pd_len {F : α → β → Prop} : ∀ {l : List α} {m : List β}, Paired F l m → l.length = m.length
  | _, _, .nil => rfl
  | _, _, .cons _ t => congrArg Nat.succ (pd_len t)
theorem pd_get {F : α → β → Prop} : ∀ {l : List α} {m : List β} {i : Nat} {x : α}, Paired F l m → l[i]? = some x → ∃ y, m[i]? = some y ∧ F x y
  | _, _, _, _, .nil, e => by simp at e
  | _, _, 0, _, .cons r _, e => by
    simp at e
    subst e
    exact ⟨_, rfl, r⟩
  | _, _, i + 1, x, .cons _ t, e => by
    obtain ⟨y, h1, h2⟩ := pd_get (i := i) (x := x) t (by simpa using e)
    exact ⟨y, by simpa using h1, h2⟩
theorem pd_get' {F : α → β → Prop} : ∀ {l : List α} {m : List β} {i : Nat} {y : β}, Paired F l m → m[i]? = some y → ∃ x, l[i]? = some x ∧ F x y
  | _, _, _, _, .nil, e => by simp at e
  | _, _, 0, _, .cons r _, e => by
    simp at e
    subst e
    exact ⟨_, rfl, r⟩
  | _, _, i + 1, x, .cons _ t, e => by
    obtain ⟨y, h1, h2⟩ := pd_get' (i := i) t (by simpa using e)
    exact ⟨y, by simpa using h1, h2⟩
theorem pd_app {F : α → β → Prop} : ∀ {l l' : List α} {m m' : List β}, Paired F l m → Paired F l' m' → Paired F (l ++ l') (m ++ m')
  | _, _, _, _, .nil, s => s
  | _, _, _, _, .cons r t, s => .cons r (pd_app t s)
theorem pd_snoc {F : α → β → Prop} {l : List α} {m : List β} {x : α} {y : β} (h : Paired F l m) (r : F x y) : Paired F (l ++ [x]) (m ++ [y]) := pd_app h (.cons r .nil)
theorem pd_take {F : α → β → Prop} : ∀ {l : List α} {m : List β} (n : Nat), Paired F l m → Paired F (l.take n) (m.take n)
  | _, _, 0, _ => .nil
  | _, _, _ + 1, .nil => .nil
  | _, _, n + 1, .cons r t => .cons r (pd_take n t)
theorem pd_drop {F : α → β → Prop} : ∀ {l : List α} {m : List β} (n : Nat), Paired F l m → Paired F (l.drop n) (m.drop n)
  | _, _, 0, r => r
  | _, _, _ + 1, .nil => .nil
  | _, _, n + 1, .cons _ t => pd_drop n t
theorem pd_imp {F G : α → β → Prop} (f : ∀ a b, F a b → G a b) : ∀ {l : List α} {m : List β}, Paired F l m → Paired G l m
  | _, _, .nil => .nil
  | _, _, .cons r t => .cons (f _ _ r) (pd_imp f t)
theorem pd_map {γ : Type} {F : α → β → Prop} (g : γ → α) (h : γ → β) (f : ∀ c, F (g c) (h c)) : ∀ l : List γ, Paired F (l.map g) (l.map h)
  | [] => .nil
  | c :: r => .cons (f c) (pd_map g h f r)
theorem stb_tup (S : Stb C R) : Stb C (TupOf K R) := ⟨fun s ⟨a, xs, e, h, p⟩ => ⟨a, xs, e, st_tv s h, pd_imp (fun _ _ => S.tv s) p⟩⟩
theorem Stb.sm (S : Stb C R) {v : V} {x : α} (s : Same H H') (h : R H v x) : R H' v x := S.tv (sm_tv s) h
theorem Stb.sv (S : Stb C R) {v : V} {x : α} (s : Sv C H H') (h : R H v x) : R H' v x := S.tv (sv_tv s) h
theorem lst_sv (S : Stb C R) (s : Sv C H H') {v : V} {l : List α} (hp : ∀ x y z : Int, ∀ a, v = .ref a → H a ≠ some (.lst [.int x, .int y, .int z])) (h : LstOf R H v l) : LstOf R H' v l := by
  obtain ⟨a, xs, e, h, p⟩ := h
  refine ⟨a, xs, e, s _ _ h fun m => ?_, pd_imp (fun _ _ => S.sv s) p⟩
  unfold Mu at m
  split at m
  · rename_i x y z q
    cases q
    exact hp _ _ _ a e h
  · rename_i c d f q
    cases q
  · exact m
end
/-- ints, texts as data -/
def IntV (_ : Hp) (v : V) (i : Int) : Prop := v = .int i
def StrV (_ : Hp) (v : V) (x : Str) : Prop := v = .str x
theorem stb_int {C : Addr} : Stb C IntV := ⟨fun _ h => h⟩
theorem stb_str {C : Addr} : Stb C StrV := ⟨fun _ h => h⟩
/-! ### comprehensions that only make: the items as, kept, f of each, R tells the values -/
section
variable {α β : Type} {J : It} {n : Nat} {G : Hp → Prop} {Y : Nat → Hp → V → Hp → Prop} {C : Addr}
theorem lc_R (wk : Walk J n G Y) {g : TG} {tt : TT} {te : TE} {vs : List Nat} {σ : L2.St} {H1 : Hp} {D : Addr} {Qd : Hp → Prop} (l : List α) (kept : α → Bool) (f : α → β) (R : Hp → V → β → Prop) (S : Stb C R) (hn : l.length = n) (hz : n ≤ 100000) (hD : H1 D = none) (hG : ∀ H, Same H1 H → G H)
    (hs : ∀ i a x H H' (F1 : V → Hp → Prop) (F0 : Hp → Prop), l[i]? = some a → Same H1 H → Y i H x H' → (kept a = true → ∀ y H4, Same H H4 → R H4 y (f a) → F1 y H4) → (kept a = false → ∀ H3, Same H H3 → F0 H3) →
      g x (wipe σ vs) H' fun σ2 H2 => wipe σ2 vs = wipe σ vs ∧ tt σ2 H2 fun b H3 => if b = true then te σ2 H3 fun y H4 => F1 y H4 else F0 H3)
    (hd : ∀ ys H, Same H1 H → H D = some (.lst ys) → Paired (R H) ys ((l.filter kept).map f) → Qd H) :
    ∃ W : Nat → Nat → Hp → Prop, (∃ m, W 0 m (upd H1 D (.lst []))) ∧ ∀ i m H, W i m H →
      (J.stop i H ∧ Qd H) ∨ (J.go i H ∧ ∃ Nx : Hp → Prop, (∀ H', Nx H' → ∃ m', m' < m ∧ W (i + 1) m' H') ∧ ∀ x H', J.yld i H x H' → g x (wipe σ vs) H' fun σ2 H2 => wipe σ2 vs = wipe σ vs ∧ tt σ2 H2 fun b H3 =>
        if b = true then te σ2 H3 fun y H4 => ∃ acc, H4 D = some (.lst acc) ∧ acc.length < sizeLine ∧ Nx (upd H4 D (.lst (acc ++ [y]))) else Nx H3) := by
  refine lc_it wk (fun i H => Same H1 H ∧ ∃ ys, H D = some (.lst ys) ∧ Paired (R H) ys (((l.take i).filter kept).map f)) ⟨sm_new hD, [], upd_same, .nil⟩ (fun i H _ p => hG H p.1) (fun i x H H' hi p y => ?_) fun H p => ?_
  · obtain ⟨p1, ys, p2, p3⟩ := p
    have hil : i < l.length := by omega
    have e : l.take (i + 1) = l.take i ++ [l[i]] := by rw [List.take_succ, List.getElem?_eq_getElem hil]; rfl
    refine hs i l[i] x H H' (fun y H4 => ∃ acc, H4 D = some (.lst acc) ∧ acc.length < sizeLine ∧ (Same H1 (upd H4 D (.lst (acc ++ [y]))) ∧ ∃ ys, (upd H4 D (.lst (acc ++ [y]))) D = some (.lst ys) ∧ Paired (R (upd H4 D (.lst (acc ++ [y])))) ys (((l.take (i + 1)).filter kept).map f)))
      (fun H3 => Same H1 H3 ∧ ∃ ys, H3 D = some (.lst ys) ∧ Paired (R H3) ys (((l.take (i + 1)).filter kept).map f)) (List.getElem?_eq_getElem hil) p1 y (fun hk y H4 s r => ?_) fun hk H3 s => ?_
    · have h4 := s _ _ p2
      have hl := pd_len p3
      have hf := List.length_filter_le kept (l.take i)
      rw [List.length_map] at hl
      rw [List.length_take] at hf
      refine ⟨ys, h4, Nat.lt_of_le_of_lt (show ys.length ≤ 100000 by omega) (by decide), sm_mut (p1.trans s) hD, _, upd_same, ?_⟩
      rw [e, List.filter_append, List.filter_cons, if_pos hk, List.map_append]
      exact pd_app (pd_imp (fun _ _ => S.tv ((sm_tv s).tr (tv_ls h4))) p3) (.cons (S.tv (tv_ls h4) r) .nil)
    · refine ⟨p1.trans s, ys, s _ _ p2, ?_⟩
      rw [e, List.filter_append, List.filter_cons, if_neg (by rw [hk]; decide)]
      simpa using pd_imp (fun _ _ => S.sm s) p3
  · obtain ⟨p1, ys, p2, p3⟩ := p
    rw [← hn, List.take_length] at p3
    exact hd ys H p1 p2 p3
end
section
variable {α β : Type} {J : It} {n : Nat} {G : Hp → Prop} {Y : Nat → Hp → V → Hp → Prop} {C : Addr}
/-- the same without tests -/
theorem lc_M (wk : Walk J n G Y) {g : TG} {te : TE} {vs : List Nat} {σ : L2.St} {H1 : Hp} {D : Addr} {Qd : Hp → Prop} (l : List α) (f : α → β) (R : Hp → V → β → Prop) (S : Stb C R) (hn : l.length = n) (hz : n ≤ 100000) (hD : H1 D = none) (hG : ∀ H, Same H1 H → G H)
    (hs : ∀ i a x H H' (F1 : V → Hp → Prop), l[i]? = some a → Same H1 H → Y i H x H' → (∀ y H4, Same H H4 → R H4 y (f a) → F1 y H4) → g x (wipe σ vs) H' fun σ2 H2 => wipe σ2 vs = wipe σ vs ∧ te σ2 H2 fun y H4 => F1 y H4)
    (hd : ∀ ys H, Same H1 H → H D = some (.lst ys) → Paired (R H) ys (l.map f) → Qd H) :
    ∃ W : Nat → Nat → Hp → Prop, (∃ m, W 0 m (upd H1 D (.lst []))) ∧ ∀ i m H, W i m H →
      (J.stop i H ∧ Qd H) ∨ (J.go i H ∧ ∃ Nx : Hp → Prop, (∀ H', Nx H' → ∃ m', m' < m ∧ W (i + 1) m' H') ∧ ∀ x H', J.yld i H x H' → g x (wipe σ vs) H' fun σ2 H2 => wipe σ2 vs = wipe σ vs ∧ tYes σ2 H2 fun b H3 =>
        if b = true then te σ2 H3 fun y H4 => ∃ acc, H4 D = some (.lst acc) ∧ acc.length < sizeLine ∧ Nx (upd H4 D (.lst (acc ++ [y]))) else Nx H3) := by
  refine lc_R wk l (fun _ => true) f R S hn hz hD hG (fun i a x H H' F1 F0 hi s y f1 f0 => ?_) fun ys H s h p => hd ys H s h ?_
  · have e : (fun σ2 H2 => wipe σ2 vs = wipe σ vs ∧ tYes σ2 H2 fun b H3 => if b = true then te σ2 H3 fun y H4 => F1 y H4 else F0 H3) = fun σ2 H2 => wipe σ2 vs = wipe σ vs ∧ te σ2 H2 fun y H4 => F1 y H4 := by
      funext σ2 H2
      simp [tYes]
    rw [e]
    exact hs i a x H H' F1 hi s y (f1 rfl)
  · have e : l.filter (fun _ => true) = l := List.filter_eq_self.mpr fun _ _ => rfl
    rw [e] at p
    exact p
/-- what is just the datum itself -/
theorem pd_eq {γ : Type} {h : γ → V} {l : List V} {m : List γ} (p : Paired (fun v b => v = h b) l m) : l = m.map h := by
  induction p with
  | nil => rfl
  | cons r _ ih => rw [List.map_cons, r, ih]
end
/-! ### defs and their promises -/
section
variable {P : Program} {w : World} {K : PySem.W.Frag} {mg : Str → Option Value} {base : Heap}
/-- a def of the module that keeps the promise sp; dvs: what fills up behind the written arguments -/
structure Fn1 (P : Program) (w : World) (K : PySem.W.Frag) (mg : Str → Option Value) (base : Heap) (k : Nat) (x : Str) (ps : List Str) (dvs : List V) (sp : Sp) : Prop where
  ex : ∃ (f : Addr) (fd : FuncData) (ds : List Value), FnOk P w K mg base CX0 k f fd ps sp ∧ mg x = some (.ref f) ∧ PySem.W.keepIn K (.ref f) = true ∧ Binds K fd ps ds ∧ Vals dvs ds
/-- a method of the class at C -/
structure Mt1 (P : Program) (w : World) (K : PySem.W.Frag) (mg : Str → Option Value) (base : Heap) (k : Nat) (C : Addr) (m : Str) (ps : List Str) (dvs : List V) (sp : Sp) : Prop where
  ex : ∃ (f : Addr) (fd : FuncData) (ds : List Value), FnOk P w K mg base CX0 k f fd ps sp ∧ Cls K C ∧ Meth K C m f ∧ Binds K fd ps ds ∧ Vals dvs ds
/-- the making of an instance, by the promise of its __init__ -/
structure Mk1 (P : Program) (w : World) (K : PySem.W.Frag) (mg : Str → Option Value) (base : Heap) (k : Nat) (x : Str) (C : Addr) (ps : List Str) (dvs : List V) (sp : Sp) : Prop where
  ex : ∃ (f : Addr) (fd : FuncData) (ds : List Value), FnOk P w K mg base CX0 k f fd ps sp ∧ mg x = some (.ref C) ∧ Mk K C f ∧ Binds K fd ps ds ∧ Vals dvs ds
section
variable {X : Cx} {k : Nat} {x m : Str} {C : Addr} {ps : List Str} {dvs : List V} {sp : Sp} {p pos apos : Pos} {e o : Expr} {es : List Expr} {t : TA} {ta : TE}
theorem pe_f (F : Fn1 X.prog X.w X.K X.mg X.base k x ps dvs sp) (hr : Room k X.A) (ha : PA X (e :: es) t) (hg : Gl X x := by rfl) (hdb : (x == ("__debug__" : Str)) = false := by decide)
    (he : starEach (e :: es) X.env = (false, eval e X.env) :: starEach es X.env := by rfl) (hpl : (backTo pos (starEach es X.env)).any (·.1) = false := by rfl) : PE X (.Call (.Name x p) (e :: es) [] pos) (tCall sp dvs E0 t) := by
  obtain ⟨f, fd, ds, F, h1, h2, h3, h4⟩ := F.ex
  exact pe_call F hr hg h1 h2 h3 h4 pass0 ha hdb he hpl
theorem pe_m {pl : Sem Bool} (F : Mt1 X.prog X.w X.K X.mg X.base k C m ps dvs sp) (hr : Room k X.A) (ho : PE X o ta) (ha : PA X (e :: es) t)
    (hst : starEach (e :: es) X.env = (false, eval e X.env) :: starEach es X.env := by rfl) (hpl : (backTo pos (starEach es X.env)).any (·.1) = false := by rfl)
    (ht : eval (.Call (.Attribute o m apos) (e :: es) [] pos) X.env = (do
      let v ← eval o X.env
      standAt apos.atName
      let (g, first) ← holding [v] (getMethod v m pl)
      callWith pos g first (backTo pos (starEach (e :: es) X.env)) (backToKw pos (keywordEach [] X.env))) := by rfl) :
    PE X (.Call (.Attribute o m apos) (e :: es) [] pos) (tMeth C m sp dvs E0 ta t) := by
  obtain ⟨f, fd, ds, F, h1, h2, h3, h4⟩ := F.ex
  exact pe_meth (pl := pl) ho h1 h2 F hr h3 h4 pass0 ha hst hpl ht
theorem pe_m0 {pl : Sem Bool} (F : Mt1 X.prog X.w X.K X.mg X.base k C m ps dvs sp) (hr : Room k X.A) (ho : PE X o ta)
    (ht : eval (.Call (.Attribute o m apos) [] [] pos) X.env = (do
      let v ← eval o X.env
      standAt apos.atName
      let (g, first) ← holding [v] (getMethod v m pl)
      callWith pos g first (backTo pos (starEach [] X.env)) (backToKw pos (keywordEach [] X.env))) := by rfl) :
    PE X (.Call (.Attribute o m apos) [] [] pos) (tMeth C m sp dvs E0 ta tNil) := by
  obtain ⟨f, fd, ds, F, h1, h2, h3, h4⟩ := F.ex
  exact pe_meth0 (pl := pl) ho h1 h2 F hr h3 h4 pass0 ht
theorem pe_mk (F : Mk1 X.prog X.w X.K X.mg X.base k x C ps dvs sp) (hr : Room (k + 1) X.A) (ha : PA X (e :: es) t) (hg : Gl X x := by rfl) (hdb : (x == ("__debug__" : Str)) = false := by decide)
    (he : starEach (e :: es) X.env = (false, eval e X.env) :: starEach es X.env := by rfl) (hpl : (backTo pos (starEach es X.env)).any (·.1) = false := by rfl) : PE X (.Call (.Name x p) (e :: es) [] pos) (tMake C sp dvs E0 t) := by
  obtain ⟨f, fd, ds, F, h1, h2, h3, h4⟩ := F.ex
  exact pe_make h2 F hr hg h1 h3 h4 pass0 ha hdb he hpl
end
/-- a def by its body, no exception leaves it -/
theorem fd_ok {x qual : Str} {st : Stmt} {dvs : List V} {kws : List (Str × V)} {f : Addr} {fd : FuncData} {N ps : List Str} {k : Nat} {sp : Sp} (F : FunD K x qual (defArgs st) (defBody st) (defScope st) dvs kws f fd) (S : FnScope N ps (defScope st)) (len : ∀ vs H Q E, sp vs H Q E → vs.length = ps.length)
    (hb : ∀ (cdv : Value) (A : Around) (outer : List Env) (s : Shared) (H : Hp) (vs : List V) (Q : VK) (E : XK), Room k (A.deeper (envOfC qual (defScope st) s.heap.objs.size f cdv)) → sp vs H Q E →
      ∃ t, PSs (cxOf CX0 P w K mg base N qual (defScope st) f cdv A outer s H E).nox (defBody st) t ∧ t { nx := fun _ H' => Q .non H', rt := Q } (start N vs) H) : FnOk P w K mg base CX0 (k + 1) f fd ps sp :=
  F.ok S len fun cdv A outer s H vs Q E hr h => by
    obtain ⟨t, h1, h2⟩ := hb cdv A outer s H vs Q E hr h
    exact ⟨t, h1.nox, h2⟩
end
end Kx
set_option Elab.async false
set_option linter.all false
set_option maxRecDepth 100000
set_option maxHeartbeats 4000000
namespace Kx
open PySem PySem.Spec PyProof.Rows L2
/-! ### a def by its body: one lemma a def -/
section
variable {P : Program} {w : World} {K : PySem.W.Frag} {mg : Str → Option Value} {base : Heap} (T : Tx w K mg)
include T
theorem Tx.E_is_whole {k : Nat} {sp : Sp} (len : ∀ vs H Q E, sp vs H Q E → vs.length = 1)
    (hb : ∀ (cdv : Value) (A : Around) (outer : List Env) (s : Shared) (H : Hp) (vs : List V) (Q : VK) (E : XK), Room k (A.deeper (envOfC "is_whole" (defScope s_is_whole) s.heap.objs.size (He.ga K "is_whole") cdv)) → sp vs H Q E →
      ∃ t, PSs (cxOf CX0 P w K mg base n_is_whole "is_whole" (defScope s_is_whole) (He.ga K "is_whole") cdv A outer s H E).nox (defBody s_is_whole) t ∧ t { nx := fun _ H' => Q .non H', rt := Q } (start n_is_whole vs) H) : Fn1 P w K mg base (k + 1) "is_whole" ["thing"] [] sp := by
  obtain ⟨fd, F⟩ := T.D_is_whole
  exact ⟨_, fd, [], fd_ok F sc_is_whole len hb, T.m_is_whole, F.kp, F.bindsN (ps := ["thing"]) (fun _ _ _ _ _ _ us hl => match us, hl with | [_], _ => rfl), .nil⟩
theorem Tx.E_is_from {k : Nat} {sp : Sp} (len : ∀ vs H Q E, sp vs H Q E → vs.length = 2)
    (hb : ∀ (cdv : Value) (A : Around) (outer : List Env) (s : Shared) (H : Hp) (vs : List V) (Q : VK) (E : XK), Room k (A.deeper (envOfC "is_from" (defScope s_is_from) s.heap.objs.size (He.ga K "is_from") cdv)) → sp vs H Q E →
      ∃ t, PSs (cxOf CX0 P w K mg base n_is_from "is_from" (defScope s_is_from) (He.ga K "is_from") cdv A outer s H E).nox (defBody s_is_from) t ∧ t { nx := fun _ H' => Q .non H', rt := Q } (start n_is_from vs) H) : Fn1 P w K mg base (k + 1) "is_from" ["thing", "least"] [] sp := by
  obtain ⟨fd, F⟩ := T.D_is_from
  exact ⟨_, fd, [], fd_ok F sc_is_from len hb, T.m_is_from, F.kp, F.bindsN (ps := ["thing", "least"]) (fun _ _ _ _ _ _ us hl => match us, hl with | [_, _], _ => rfl), .nil⟩
theorem Tx.E_is_between {k : Nat} {sp : Sp} (len : ∀ vs H Q E, sp vs H Q E → vs.length = 3)
    (hb : ∀ (cdv : Value) (A : Around) (outer : List Env) (s : Shared) (H : Hp) (vs : List V) (Q : VK) (E : XK), Room k (A.deeper (envOfC "is_between" (defScope s_is_between) s.heap.objs.size (He.ga K "is_between") cdv)) → sp vs H Q E →
      ∃ t, PSs (cxOf CX0 P w K mg base n_is_between "is_between" (defScope s_is_between) (He.ga K "is_between") cdv A outer s H E).nox (defBody s_is_between) t ∧ t { nx := fun _ H' => Q .non H', rt := Q } (start n_is_between vs) H) : Fn1 P w K mg base (k + 1) "is_between" ["thing", "least", "most"] [] sp := by
  obtain ⟨fd, F⟩ := T.D_is_between
  exact ⟨_, fd, [], fd_ok F sc_is_between len hb, T.m_is_between, F.kp, F.bindsN (ps := ["thing", "least", "most"]) (fun _ _ _ _ _ _ us hl => match us, hl with | [_, _, _], _ => rfl), .nil⟩
theorem Tx.E_is_capacity {k : Nat} {sp : Sp} (len : ∀ vs H Q E, sp vs H Q E → vs.length = 1)
    (hb : ∀ (cdv : Value) (A : Around) (outer : List Env) (s : Shared) (H : Hp) (vs : List V) (Q : VK) (E : XK), Room k (A.deeper (envOfC "is_capacity" (defScope s_is_capacity) s.heap.objs.size (He.ga K "is_capacity") cdv)) → sp vs H Q E →
      ∃ t, PSs (cxOf CX0 P w K mg base n_is_capacity "is_capacity" (defScope s_is_capacity) (He.ga K "is_capacity") cdv A outer s H E).nox (defBody s_is_capacity) t ∧ t { nx := fun _ H' => Q .non H', rt := Q } (start n_is_capacity vs) H) : Fn1 P w K mg base (k + 1) "is_capacity" ["thing"] [] sp := by
  obtain ⟨fd, F⟩ := T.D_is_capacity
  exact ⟨_, fd, [], fd_ok F sc_is_capacity len hb, T.m_is_capacity, F.kp, F.bindsN (ps := ["thing"]) (fun _ _ _ _ _ _ us hl => match us, hl with | [_], _ => rfl), .nil⟩
theorem Tx.E_is_name {k : Nat} {sp : Sp} (len : ∀ vs H Q E, sp vs H Q E → vs.length = 1)
    (hb : ∀ (cdv : Value) (A : Around) (outer : List Env) (s : Shared) (H : Hp) (vs : List V) (Q : VK) (E : XK), Room k (A.deeper (envOfC "is_name" (defScope s_is_name) s.heap.objs.size (He.ga K "is_name") cdv)) → sp vs H Q E →
      ∃ t, PSs (cxOf CX0 P w K mg base n_is_name "is_name" (defScope s_is_name) (He.ga K "is_name") cdv A outer s H E).nox (defBody s_is_name) t ∧ t { nx := fun _ H' => Q .non H', rt := Q } (start n_is_name vs) H) : Fn1 P w K mg base (k + 1) "is_name" ["thing"] [] sp := by
  obtain ⟨fd, F⟩ := T.D_is_name
  exact ⟨_, fd, [], fd_ok F sc_is_name len hb, T.m_is_name, F.kp, F.bindsN (ps := ["thing"]) (fun _ _ _ _ _ _ us hl => match us, hl with | [_], _ => rfl), .nil⟩
theorem Tx.E_is_run {k : Nat} {sp : Sp} (len : ∀ vs H Q E, sp vs H Q E → vs.length = 1)
    (hb : ∀ (cdv : Value) (A : Around) (outer : List Env) (s : Shared) (H : Hp) (vs : List V) (Q : VK) (E : XK), Room k (A.deeper (envOfC "is_run" (defScope s_is_run) s.heap.objs.size (He.ga K "is_run") cdv)) → sp vs H Q E →
      ∃ t, PSs (cxOf CX0 P w K mg base n_is_run "is_run" (defScope s_is_run) (He.ga K "is_run") cdv A outer s H E).nox (defBody s_is_run) t ∧ t { nx := fun _ H' => Q .non H', rt := Q } (start n_is_run vs) H) : Fn1 P w K mg base (k + 1) "is_run" ["thing"] [] sp := by
  obtain ⟨fd, F⟩ := T.D_is_run
  exact ⟨_, fd, [], fd_ok F sc_is_run len hb, T.m_is_run, F.kp, F.bindsN (ps := ["thing"]) (fun _ _ _ _ _ _ us hl => match us, hl with | [_], _ => rfl), .nil⟩
theorem Tx.E_first_invalid {k : Nat} {sp : Sp} (len : ∀ vs H Q E, sp vs H Q E → vs.length = 2)
    (hb : ∀ (cdv : Value) (A : Around) (outer : List Env) (s : Shared) (H : Hp) (vs : List V) (Q : VK) (E : XK), Room k (A.deeper (envOfC "first_invalid" (defScope s_first_invalid) s.heap.objs.size (He.ga K "first_invalid") cdv)) → sp vs H Q E →
      ∃ t, PSs (cxOf CX0 P w K mg base n_first_invalid "first_invalid" (defScope s_first_invalid) (He.ga K "first_invalid") cdv A outer s H E).nox (defBody s_first_invalid) t ∧ t { nx := fun _ H' => Q .non H', rt := Q } (start n_first_invalid vs) H) : Fn1 P w K mg base (k + 1) "first_invalid" ["thing", "most"] [] sp := by
  obtain ⟨fd, F⟩ := T.D_first_invalid
  exact ⟨_, fd, [], fd_ok F sc_first_invalid len hb, T.m_first_invalid, F.kp, F.bindsN (ps := ["thing", "most"]) (fun _ _ _ _ _ _ us hl => match us, hl with | [_, _], _ => rfl), .nil⟩
theorem Tx.E_check_capacity {k : Nat} {sp : Sp} (len : ∀ vs H Q E, sp vs H Q E → vs.length = 1)
    (hb : ∀ (cdv : Value) (A : Around) (outer : List Env) (s : Shared) (H : Hp) (vs : List V) (Q : VK) (E : XK), Room k (A.deeper (envOfC "check_capacity" (defScope s_check_capacity) s.heap.objs.size (He.ga K "check_capacity") cdv)) → sp vs H Q E →
      ∃ t, PSs (cxOf CX0 P w K mg base n_check_capacity "check_capacity" (defScope s_check_capacity) (He.ga K "check_capacity") cdv A outer s H E).nox (defBody s_check_capacity) t ∧ t { nx := fun _ H' => Q .non H', rt := Q } (start n_check_capacity vs) H) : Fn1 P w K mg base (k + 1) "check_capacity" ["thing"] [] sp := by
  obtain ⟨fd, F⟩ := T.D_check_capacity
  exact ⟨_, fd, [], fd_ok F sc_check_capacity len hb, T.m_check_capacity, F.kp, F.bindsN (ps := ["thing"]) (fun _ _ _ _ _ _ us hl => match us, hl with | [_], _ => rfl), .nil⟩
theorem Tx.E_check_name {k : Nat} {sp : Sp} (len : ∀ vs H Q E, sp vs H Q E → vs.length = 1)
    (hb : ∀ (cdv : Value) (A : Around) (outer : List Env) (s : Shared) (H : Hp) (vs : List V) (Q : VK) (E : XK), Room k (A.deeper (envOfC "check_name" (defScope s_check_name) s.heap.objs.size (He.ga K "check_name") cdv)) → sp vs H Q E →
      ∃ t, PSs (cxOf CX0 P w K mg base n_check_name "check_name" (defScope s_check_name) (He.ga K "check_name") cdv A outer s H E).nox (defBody s_check_name) t ∧ t { nx := fun _ H' => Q .non H', rt := Q } (start n_check_name vs) H) : Fn1 P w K mg base (k + 1) "check_name" ["thing"] [] sp := by
  obtain ⟨fd, F⟩ := T.D_check_name
  exact ⟨_, fd, [], fd_ok F sc_check_name len hb, T.m_check_name, F.kp, F.bindsN (ps := ["thing"]) (fun _ _ _ _ _ _ us hl => match us, hl with | [_], _ => rfl), .nil⟩
theorem Tx.E_table_of {k : Nat} {sp : Sp} (len : ∀ vs H Q E, sp vs H Q E → vs.length = 1)
    (hb : ∀ (cdv : Value) (A : Around) (outer : List Env) (s : Shared) (H : Hp) (vs : List V) (Q : VK) (E : XK), Room k (A.deeper (envOfC "table_of" (defScope s_table_of) s.heap.objs.size (He.ga K "table_of") cdv)) → sp vs H Q E →
      ∃ t, PSs (cxOf CX0 P w K mg base n_table_of "table_of" (defScope s_table_of) (He.ga K "table_of") cdv A outer s H E).nox (defBody s_table_of) t ∧ t { nx := fun _ H' => Q .non H', rt := Q } (start n_table_of vs) H) : Fn1 P w K mg base (k + 1) "table_of" ["pairs"] [] sp := by
  obtain ⟨fd, F⟩ := T.D_table_of
  exact ⟨_, fd, [], fd_ok F sc_table_of len hb, T.m_table_of, F.kp, F.bindsN (ps := ["pairs"]) (fun _ _ _ _ _ _ us hl => match us, hl with | [_], _ => rfl), .nil⟩
theorem Tx.E_counts_of_table {k : Nat} {sp : Sp} (len : ∀ vs H Q E, sp vs H Q E → vs.length = 1)
    (hb : ∀ (cdv : Value) (A : Around) (outer : List Env) (s : Shared) (H : Hp) (vs : List V) (Q : VK) (E : XK), Room k (A.deeper (envOfC "counts_of_table" (defScope s_counts_of_table) s.heap.objs.size (He.ga K "counts_of_table") cdv)) → sp vs H Q E →
      ∃ t, PSs (cxOf CX0 P w K mg base n_counts_of_table "counts_of_table" (defScope s_counts_of_table) (He.ga K "counts_of_table") cdv A outer s H E).nox (defBody s_counts_of_table) t ∧ t { nx := fun _ H' => Q .non H', rt := Q } (start n_counts_of_table vs) H) : Fn1 P w K mg base (k + 1) "counts_of_table" ["table"] [] sp := by
  obtain ⟨fd, F⟩ := T.D_counts_of_table
  exact ⟨_, fd, [], fd_ok F sc_counts_of_table len hb, T.m_counts_of_table, F.kp, F.bindsN (ps := ["table"]) (fun _ _ _ _ _ _ us hl => match us, hl with | [_], _ => rfl), .nil⟩
theorem Tx.E_first_no_order {k : Nat} {sp : Sp} (len : ∀ vs H Q E, sp vs H Q E → vs.length = 1)
    (hb : ∀ (cdv : Value) (A : Around) (outer : List Env) (s : Shared) (H : Hp) (vs : List V) (Q : VK) (E : XK), Room k (A.deeper (envOfC "first_no_order" (defScope s_first_no_order) s.heap.objs.size (He.ga K "first_no_order") cdv)) → sp vs H Q E →
      ∃ t, PSs (cxOf CX0 P w K mg base n_first_no_order "first_no_order" (defScope s_first_no_order) (He.ga K "first_no_order") cdv A outer s H E).nox (defBody s_first_no_order) t ∧ t { nx := fun _ H' => Q .non H', rt := Q } (start n_first_no_order vs) H) : Fn1 P w K mg base (k + 1) "first_no_order" ["thing"] [] sp := by
  obtain ⟨fd, F⟩ := T.D_first_no_order
  exact ⟨_, fd, [], fd_ok F sc_first_no_order len hb, T.m_first_no_order, F.kp, F.bindsN (ps := ["thing"]) (fun _ _ _ _ _ _ us hl => match us, hl with | [_], _ => rfl), .nil⟩
theorem Tx.E_check_order {k : Nat} {sp : Sp} (len : ∀ vs H Q E, sp vs H Q E → vs.length = 1)
    (hb : ∀ (cdv : Value) (A : Around) (outer : List Env) (s : Shared) (H : Hp) (vs : List V) (Q : VK) (E : XK), Room k (A.deeper (envOfC "check_order" (defScope s_check_order) s.heap.objs.size (He.ga K "check_order") cdv)) → sp vs H Q E →
      ∃ t, PSs (cxOf CX0 P w K mg base n_check_order "check_order" (defScope s_check_order) (He.ga K "check_order") cdv A outer s H E).nox (defBody s_check_order) t ∧ t { nx := fun _ H' => Q .non H', rt := Q } (start n_check_order vs) H) : Fn1 P w K mg base (k + 1) "check_order" ["thing"] [] sp := by
  obtain ⟨fd, F⟩ := T.D_check_order
  exact ⟨_, fd, [], fd_ok F sc_check_order len hb, T.m_check_order, F.kp, F.bindsN (ps := ["thing"]) (fun _ _ _ _ _ _ us hl => match us, hl with | [_], _ => rfl), .nil⟩
theorem Tx.E_counts_text {k : Nat} {sp : Sp} (len : ∀ vs H Q E, sp vs H Q E → vs.length = 1)
    (hb : ∀ (cdv : Value) (A : Around) (outer : List Env) (s : Shared) (H : Hp) (vs : List V) (Q : VK) (E : XK), Room k (A.deeper (envOfC "counts_text" (defScope s_counts_text) s.heap.objs.size (He.ga K "counts_text") cdv)) → sp vs H Q E →
      ∃ t, PSs (cxOf CX0 P w K mg base n_counts_text "counts_text" (defScope s_counts_text) (He.ga K "counts_text") cdv A outer s H E).nox (defBody s_counts_text) t ∧ t { nx := fun _ H' => Q .non H', rt := Q } (start n_counts_text vs) H) : Fn1 P w K mg base (k + 1) "counts_text" ["counts"] [] sp := by
  obtain ⟨fd, F⟩ := T.D_counts_text
  exact ⟨_, fd, [], fd_ok F sc_counts_text len hb, T.m_counts_text, F.kp, F.bindsN (ps := ["counts"]) (fun _ _ _ _ _ _ us hl => match us, hl with | [_], _ => rfl), .nil⟩
theorem Tx.G_Summary___init__ {k : Nat} {sp : Sp} (len : ∀ vs H Q E, sp vs H Q E → vs.length = 3)
    (hb : ∀ (cdv : Value) (A : Around) (outer : List Env) (s : Shared) (H : Hp) (vs : List V) (Q : VK) (E : XK), Room k (A.deeper (envOfC "Summary.__init__" (defScope s_Summary___init__) s.heap.objs.size (He.ma K (He.ga K "Summary") "__init__") cdv)) → sp vs H Q E →
      ∃ t, PSs (cxOf CX0 P w K mg base n_Summary___init__ "Summary.__init__" (defScope s_Summary___init__) (He.ma K (He.ga K "Summary") "__init__") cdv A outer s H E).nox (defBody s_Summary___init__) t ∧ t { nx := fun _ H' => Q .non H', rt := Q } (start n_Summary___init__ vs) H) : ∃ fd, FnOk P w K mg base CX0 (k + 1) (He.ma K (He.ga K "Summary") "__init__") fd ["self", "capacity", "counts"] sp ∧ FunD K "__init__" "Summary.__init__" (defArgs s_Summary___init__) (defBody s_Summary___init__) (defScope s_Summary___init__) (([.adr (He.dflAt ("Summary", some "__init__") 0)] : List He.Dv).map (He.Dv.v K)) (([] : List (Str × He.Dv)).map fun q => (q.1, q.2.v K)) (He.ma K (He.ga K "Summary") "__init__") fd := by
  obtain ⟨fd, F⟩ := T.D_Summary___init__
  exact ⟨fd, fd_ok F sc_Summary___init__ len hb, F⟩
theorem Tx.E_Summary___eq__ {k : Nat} {sp : Sp} (len : ∀ vs H Q E, sp vs H Q E → vs.length = 2)
    (hb : ∀ (cdv : Value) (A : Around) (outer : List Env) (s : Shared) (H : Hp) (vs : List V) (Q : VK) (E : XK), Room k (A.deeper (envOfC "Summary.__eq__" (defScope s_Summary___eq__) s.heap.objs.size (He.ma K (He.ga K "Summary") "__eq__") cdv)) → sp vs H Q E →
      ∃ t, PSs (cxOf CX0 P w K mg base n_Summary___eq__ "Summary.__eq__" (defScope s_Summary___eq__) (He.ma K (He.ga K "Summary") "__eq__") cdv A outer s H E).nox (defBody s_Summary___eq__) t ∧ t { nx := fun _ H' => Q .non H', rt := Q } (start n_Summary___eq__ vs) H) : Mt1 P w K mg base (k + 1) (CS K) "__eq__" ["self", "other"] [] sp := by
  obtain ⟨fd, F⟩ := T.D_Summary___eq__
  exact ⟨_, fd, [], fd_ok F sc_Summary___eq__ len hb, T.c_Summary, T.me_Summary___eq__, F.bindsN (ps := ["self", "other"]) (fun _ _ _ _ _ _ us hl => match us, hl with | [_, _], _ => rfl), .nil⟩
theorem Tx.E_Summary___len__ {k : Nat} {sp : Sp} (len : ∀ vs H Q E, sp vs H Q E → vs.length = 1)
    (hb : ∀ (cdv : Value) (A : Around) (outer : List Env) (s : Shared) (H : Hp) (vs : List V) (Q : VK) (E : XK), Room k (A.deeper (envOfC "Summary.__len__" (defScope s_Summary___len__) s.heap.objs.size (He.ma K (He.ga K "Summary") "__len__") cdv)) → sp vs H Q E →
      ∃ t, PSs (cxOf CX0 P w K mg base n_Summary___len__ "Summary.__len__" (defScope s_Summary___len__) (He.ma K (He.ga K "Summary") "__len__") cdv A outer s H E).nox (defBody s_Summary___len__) t ∧ t { nx := fun _ H' => Q .non H', rt := Q } (start n_Summary___len__ vs) H) : Mt1 P w K mg base (k + 1) (CS K) "__len__" ["self"] [] sp := by
  obtain ⟨fd, F⟩ := T.D_Summary___len__
  exact ⟨_, fd, [], fd_ok F sc_Summary___len__ len hb, T.c_Summary, T.me_Summary___len__, F.bindsN (ps := ["self"]) (fun _ _ _ _ _ _ us hl => match us, hl with | [_], _ => rfl), .nil⟩
theorem Tx.E_Summary___str__ {k : Nat} {sp : Sp} (len : ∀ vs H Q E, sp vs H Q E → vs.length = 1)
    (hb : ∀ (cdv : Value) (A : Around) (outer : List Env) (s : Shared) (H : Hp) (vs : List V) (Q : VK) (E : XK), Room k (A.deeper (envOfC "Summary.__str__" (defScope s_Summary___str__) s.heap.objs.size (He.ma K (He.ga K "Summary") "__str__") cdv)) → sp vs H Q E →
      ∃ t, PSs (cxOf CX0 P w K mg base n_Summary___str__ "Summary.__str__" (defScope s_Summary___str__) (He.ma K (He.ga K "Summary") "__str__") cdv A outer s H E).nox (defBody s_Summary___str__) t ∧ t { nx := fun _ H' => Q .non H', rt := Q } (start n_Summary___str__ vs) H) : Mt1 P w K mg base (k + 1) (CS K) "__str__" ["self"] [] sp := by
  obtain ⟨fd, F⟩ := T.D_Summary___str__
  exact ⟨_, fd, [], fd_ok F sc_Summary___str__ len hb, T.c_Summary, T.me_Summary___str__, F.bindsN (ps := ["self"]) (fun _ _ _ _ _ _ us hl => match us, hl with | [_], _ => rfl), .nil⟩
theorem Tx.E_Summary___repr__ {k : Nat} {sp : Sp} (len : ∀ vs H Q E, sp vs H Q E → vs.length = 1)
    (hb : ∀ (cdv : Value) (A : Around) (outer : List Env) (s : Shared) (H : Hp) (vs : List V) (Q : VK) (E : XK), Room k (A.deeper (envOfC "Summary.__repr__" (defScope s_Summary___repr__) s.heap.objs.size (He.ma K (He.ga K "Summary") "__repr__") cdv)) → sp vs H Q E →
      ∃ t, PSs (cxOf CX0 P w K mg base n_Summary___repr__ "Summary.__repr__" (defScope s_Summary___repr__) (He.ma K (He.ga K "Summary") "__repr__") cdv A outer s H E).nox (defBody s_Summary___repr__) t ∧ t { nx := fun _ H' => Q .non H', rt := Q } (start n_Summary___repr__ vs) H) : Mt1 P w K mg base (k + 1) (CS K) "__repr__" ["self"] [] sp := by
  obtain ⟨fd, F⟩ := T.D_Summary___repr__
  exact ⟨_, fd, [], fd_ok F sc_Summary___repr__ len hb, T.c_Summary, T.me_Summary___repr__, F.bindsN (ps := ["self"]) (fun _ _ _ _ _ _ us hl => match us, hl with | [_], _ => rfl), .nil⟩
theorem Tx.G_Summary_arrive {k : Nat} {sp : Sp} (len : ∀ vs H Q E, sp vs H Q E → vs.length = 3)
    (hb : ∀ (cdv : Value) (A : Around) (outer : List Env) (s : Shared) (H : Hp) (vs : List V) (Q : VK) (E : XK), Room k (A.deeper (envOfC "Summary.arrive" (defScope s_Summary_arrive) s.heap.objs.size (He.ma K (He.ga K "Summary") "arrive") cdv)) → sp vs H Q E →
      ∃ t, PSs (cxOf CX0 P w K mg base n_Summary_arrive "Summary.arrive" (defScope s_Summary_arrive) (He.ma K (He.ga K "Summary") "arrive") cdv A outer s H E).nox (defBody s_Summary_arrive) t ∧ t { nx := fun _ H' => Q .non H', rt := Q } (start n_Summary_arrive vs) H) : ∃ fd, FnOk P w K mg base CX0 (k + 1) (He.ma K (He.ga K "Summary") "arrive") fd ["self", "name", "times"] sp ∧ FunD K "arrive" "Summary.arrive" (defArgs s_Summary_arrive) (defBody s_Summary_arrive) (defScope s_Summary_arrive) (([.int 1] : List He.Dv).map (He.Dv.v K)) (([] : List (Str × He.Dv)).map fun q => (q.1, q.2.v K)) (He.ma K (He.ga K "Summary") "arrive") fd := by
  obtain ⟨fd, F⟩ := T.D_Summary_arrive
  exact ⟨fd, fd_ok F sc_Summary_arrive len hb, F⟩
theorem Tx.E_Summary_reductions {k : Nat} {sp : Sp} (len : ∀ vs H Q E, sp vs H Q E → vs.length = 2)
    (hb : ∀ (cdv : Value) (A : Around) (outer : List Env) (s : Shared) (H : Hp) (vs : List V) (Q : VK) (E : XK), Room k (A.deeper (envOfC "Summary.reductions" (defScope s_Summary_reductions) s.heap.objs.size (He.ma K (He.ga K "Summary") "reductions") cdv)) → sp vs H Q E →
      ∃ t, PSs (cxOf CX0 P w K mg base n_Summary_reductions "Summary.reductions" (defScope s_Summary_reductions) (He.ma K (He.ga K "Summary") "reductions") cdv A outer s H E).nox (defBody s_Summary_reductions) t ∧ t { nx := fun _ H' => Q .non H', rt := Q } (start n_Summary_reductions vs) H) : Mt1 P w K mg base (k + 1) (CS K) "reductions" ["self", "order"] [] sp := by
  obtain ⟨fd, F⟩ := T.D_Summary_reductions
  exact ⟨_, fd, [], fd_ok F sc_Summary_reductions len hb, T.c_Summary, T.me_Summary_reductions, F.bindsN (ps := ["self", "order"]) (fun _ _ _ _ _ _ us hl => match us, hl with | [_, _], _ => rfl), .nil⟩
theorem Tx.E_Summary_merged {k : Nat} {sp : Sp} (len : ∀ vs H Q E, sp vs H Q E → vs.length = 2)
    (hb : ∀ (cdv : Value) (A : Around) (outer : List Env) (s : Shared) (H : Hp) (vs : List V) (Q : VK) (E : XK), Room k (A.deeper (envOfC "Summary.merged" (defScope s_Summary_merged) s.heap.objs.size (He.ma K (He.ga K "Summary") "merged") cdv)) → sp vs H Q E →
      ∃ t, PSs (cxOf CX0 P w K mg base n_Summary_merged "Summary.merged" (defScope s_Summary_merged) (He.ma K (He.ga K "Summary") "merged") cdv A outer s H E).nox (defBody s_Summary_merged) t ∧ t { nx := fun _ H' => Q .non H', rt := Q } (start n_Summary_merged vs) H) : Mt1 P w K mg base (k + 1) (CS K) "merged" ["self", "other"] [] sp := by
  obtain ⟨fd, F⟩ := T.D_Summary_merged
  exact ⟨_, fd, [], fd_ok F sc_Summary_merged len hb, T.c_Summary, T.me_Summary_merged, F.bindsN (ps := ["self", "other"]) (fun _ _ _ _ _ _ us hl => match us, hl with | [_, _], _ => rfl), .nil⟩
theorem Tx.E_lowered {k : Nat} {sp : Sp} (len : ∀ vs H Q E, sp vs H Q E → vs.length = 2)
    (hb : ∀ (cdv : Value) (A : Around) (outer : List Env) (s : Shared) (H : Hp) (vs : List V) (Q : VK) (E : XK), Room k (A.deeper (envOfC "lowered" (defScope s_lowered) s.heap.objs.size (He.ga K "lowered") cdv)) → sp vs H Q E →
      ∃ t, PSs (cxOf CX0 P w K mg base n_lowered "lowered" (defScope s_lowered) (He.ga K "lowered") cdv A outer s H E).nox (defBody s_lowered) t ∧ t { nx := fun _ H' => Q .non H', rt := Q } (start n_lowered vs) H) : Fn1 P w K mg base (k + 1) "lowered" ["table", "step"] [] sp := by
  obtain ⟨fd, F⟩ := T.D_lowered
  exact ⟨_, fd, [], fd_ok F sc_lowered len hb, T.m_lowered, F.kp, F.bindsN (ps := ["table", "step"]) (fun _ _ _ _ _ _ us hl => match us, hl with | [_, _], _ => rfl), .nil⟩
theorem Tx.E_arrived {k : Nat} {sp : Sp} (len : ∀ vs H Q E, sp vs H Q E → vs.length = 4)
    (hb : ∀ (cdv : Value) (A : Around) (outer : List Env) (s : Shared) (H : Hp) (vs : List V) (Q : VK) (E : XK), Room k (A.deeper (envOfC "arrived" (defScope s_arrived) s.heap.objs.size (He.ga K "arrived") cdv)) → sp vs H Q E →
      ∃ t, PSs (cxOf CX0 P w K mg base n_arrived "arrived" (defScope s_arrived) (He.ga K "arrived") cdv A outer s H E).nox (defBody s_arrived) t ∧ t { nx := fun _ H' => Q .non H', rt := Q } (start n_arrived vs) H) : Fn1 P w K mg base (k + 1) "arrived" ["capacity", "table", "name", "times"] [] sp := by
  obtain ⟨fd, F⟩ := T.D_arrived
  exact ⟨_, fd, [], fd_ok F sc_arrived len hb, T.m_arrived, F.kp, F.bindsN (ps := ["capacity", "table", "name", "times"]) (fun _ _ _ _ _ _ us hl => match us, hl with | [_, _, _, _], _ => rfl), .nil⟩
theorem Tx.E_played {k : Nat} {sp : Sp} (len : ∀ vs H Q E, sp vs H Q E → vs.length = 3)
    (hb : ∀ (cdv : Value) (A : Around) (outer : List Env) (s : Shared) (H : Hp) (vs : List V) (Q : VK) (E : XK), Room k (A.deeper (envOfC "played" (defScope s_played) s.heap.objs.size (He.ga K "played") cdv)) → sp vs H Q E →
      ∃ t, PSs (cxOf CX0 P w K mg base n_played "played" (defScope s_played) (He.ga K "played") cdv A outer s H E).nox (defBody s_played) t ∧ t { nx := fun _ H' => Q .non H', rt := Q } (start n_played vs) H) : Fn1 P w K mg base (k + 1) "played" ["capacity", "table", "runs"] [] sp := by
  obtain ⟨fd, F⟩ := T.D_played
  exact ⟨_, fd, [], fd_ok F sc_played len hb, T.m_played, F.kp, F.bindsN (ps := ["capacity", "table", "runs"]) (fun _ _ _ _ _ _ us hl => match us, hl with | [_, _, _], _ => rfl), .nil⟩
theorem Tx.E_is_summary {k : Nat} {sp : Sp} (len : ∀ vs H Q E, sp vs H Q E → vs.length = 1)
    (hb : ∀ (cdv : Value) (A : Around) (outer : List Env) (s : Shared) (H : Hp) (vs : List V) (Q : VK) (E : XK), Room k (A.deeper (envOfC "is_summary" (defScope s_is_summary) s.heap.objs.size (He.ga K "is_summary") cdv)) → sp vs H Q E →
      ∃ t, PSs (cxOf CX0 P w K mg base n_is_summary "is_summary" (defScope s_is_summary) (He.ga K "is_summary") cdv A outer s H E).nox (defBody s_is_summary) t ∧ t { nx := fun _ H' => Q .non H', rt := Q } (start n_is_summary vs) H) : Fn1 P w K mg base (k + 1) "is_summary" ["thing"] [] sp := by
  obtain ⟨fd, F⟩ := T.D_is_summary
  exact ⟨_, fd, [], fd_ok F sc_is_summary len hb, T.m_is_summary, F.kp, F.bindsN (ps := ["thing"]) (fun _ _ _ _ _ _ us hl => match us, hl with | [_], _ => rfl), .nil⟩
theorem Tx.E_check_summary {k : Nat} {sp : Sp} (len : ∀ vs H Q E, sp vs H Q E → vs.length = 1)
    (hb : ∀ (cdv : Value) (A : Around) (outer : List Env) (s : Shared) (H : Hp) (vs : List V) (Q : VK) (E : XK), Room k (A.deeper (envOfC "check_summary" (defScope s_check_summary) s.heap.objs.size (He.ga K "check_summary") cdv)) → sp vs H Q E →
      ∃ t, PSs (cxOf CX0 P w K mg base n_check_summary "check_summary" (defScope s_check_summary) (He.ga K "check_summary") cdv A outer s H E).nox (defBody s_check_summary) t ∧ t { nx := fun _ H' => Q .non H', rt := Q } (start n_check_summary vs) H) : Fn1 P w K mg base (k + 1) "check_summary" ["thing"] [] sp := by
  obtain ⟨fd, F⟩ := T.D_check_summary
  exact ⟨_, fd, [], fd_ok F sc_check_summary len hb, T.m_check_summary, F.kp, F.bindsN (ps := ["thing"]) (fun _ _ _ _ _ _ us hl => match us, hl with | [_], _ => rfl), .nil⟩
theorem Tx.E_is_action {k : Nat} {sp : Sp} (len : ∀ vs H Q E, sp vs H Q E → vs.length = 1)
    (hb : ∀ (cdv : Value) (A : Around) (outer : List Env) (s : Shared) (H : Hp) (vs : List V) (Q : VK) (E : XK), Room k (A.deeper (envOfC "is_action" (defScope s_is_action) s.heap.objs.size (He.ga K "is_action") cdv)) → sp vs H Q E →
      ∃ t, PSs (cxOf CX0 P w K mg base n_is_action "is_action" (defScope s_is_action) (He.ga K "is_action") cdv A outer s H E).nox (defBody s_is_action) t ∧ t { nx := fun _ H' => Q .non H', rt := Q } (start n_is_action vs) H) : Fn1 P w K mg base (k + 1) "is_action" ["thing"] [] sp := by
  obtain ⟨fd, F⟩ := T.D_is_action
  exact ⟨_, fd, [], fd_ok F sc_is_action len hb, T.m_is_action, F.kp, F.bindsN (ps := ["thing"]) (fun _ _ _ _ _ _ us hl => match us, hl with | [_], _ => rfl), .nil⟩
theorem Tx.E_check_actions {k : Nat} {sp : Sp} (len : ∀ vs H Q E, sp vs H Q E → vs.length = 1)
    (hb : ∀ (cdv : Value) (A : Around) (outer : List Env) (s : Shared) (H : Hp) (vs : List V) (Q : VK) (E : XK), Room k (A.deeper (envOfC "check_actions" (defScope s_check_actions) s.heap.objs.size (He.ga K "check_actions") cdv)) → sp vs H Q E →
      ∃ t, PSs (cxOf CX0 P w K mg base n_check_actions "check_actions" (defScope s_check_actions) (He.ga K "check_actions") cdv A outer s H E).nox (defBody s_check_actions) t ∧ t { nx := fun _ H' => Q .non H', rt := Q } (start n_check_actions vs) H) : Fn1 P w K mg base (k + 1) "check_actions" ["actions"] [] sp := by
  obtain ⟨fd, F⟩ := T.D_check_actions
  exact ⟨_, fd, [], fd_ok F sc_check_actions len hb, T.m_check_actions, F.kp, F.bindsN (ps := ["actions"]) (fun _ _ _ _ _ _ us hl => match us, hl with | [_], _ => rfl), .nil⟩
theorem Tx.E_check_index {k : Nat} {sp : Sp} (len : ∀ vs H Q E, sp vs H Q E → vs.length = 2)
    (hb : ∀ (cdv : Value) (A : Around) (outer : List Env) (s : Shared) (H : Hp) (vs : List V) (Q : VK) (E : XK), Room k (A.deeper (envOfC "check_index" (defScope s_check_index) s.heap.objs.size (He.ga K "check_index") cdv)) → sp vs H Q E →
      ∃ t, PSs (cxOf CX0 P w K mg base n_check_index "check_index" (defScope s_check_index) (He.ga K "check_index") cdv A outer s H E).nox (defBody s_check_index) t ∧ t { nx := fun _ H' => Q .non H', rt := Q } (start n_check_index vs) H) : Fn1 P w K mg base (k + 1) "check_index" ["index", "most"] [] sp := by
  obtain ⟨fd, F⟩ := T.D_check_index
  exact ⟨_, fd, [], fd_ok F sc_check_index len hb, T.m_check_index, F.kp, F.bindsN (ps := ["index", "most"]) (fun _ _ _ _ _ _ us hl => match us, hl with | [_, _], _ => rfl), .nil⟩
theorem Tx.E_check_run {k : Nat} {sp : Sp} (len : ∀ vs H Q E, sp vs H Q E → vs.length = 2)
    (hb : ∀ (cdv : Value) (A : Around) (outer : List Env) (s : Shared) (H : Hp) (vs : List V) (Q : VK) (E : XK), Room k (A.deeper (envOfC "check_run" (defScope s_check_run) s.heap.objs.size (He.ga K "check_run") cdv)) → sp vs H Q E →
      ∃ t, PSs (cxOf CX0 P w K mg base n_check_run "check_run" (defScope s_check_run) (He.ga K "check_run") cdv A outer s H E).nox (defBody s_check_run) t ∧ t { nx := fun _ H' => Q .non H', rt := Q } (start n_check_run vs) H) : Fn1 P w K mg base (k + 1) "check_run" ["name", "times"] [] sp := by
  obtain ⟨fd, F⟩ := T.D_check_run
  exact ⟨_, fd, [], fd_ok F sc_check_run len hb, T.m_check_run, F.kp, F.bindsN (ps := ["name", "times"]) (fun _ _ _ _ _ _ us hl => match us, hl with | [_, _], _ => rfl), .nil⟩
theorem Tx.E_check_same {k : Nat} {sp : Sp} (len : ∀ vs H Q E, sp vs H Q E → vs.length = 2)
    (hb : ∀ (cdv : Value) (A : Around) (outer : List Env) (s : Shared) (H : Hp) (vs : List V) (Q : VK) (E : XK), Room k (A.deeper (envOfC "check_same" (defScope s_check_same) s.heap.objs.size (He.ga K "check_same") cdv)) → sp vs H Q E →
      ∃ t, PSs (cxOf CX0 P w K mg base n_check_same "check_same" (defScope s_check_same) (He.ga K "check_same") cdv A outer s H E).nox (defBody s_check_same) t ∧ t { nx := fun _ H' => Q .non H', rt := Q } (start n_check_same vs) H) : Fn1 P w K mg base (k + 1) "check_same" ["capacity", "summary"] [] sp := by
  obtain ⟨fd, F⟩ := T.D_check_same
  exact ⟨_, fd, [], fd_ok F sc_check_same len hb, T.m_check_same, F.kp, F.bindsN (ps := ["capacity", "summary"]) (fun _ _ _ _ _ _ us hl => match us, hl with | [_, _], _ => rfl), .nil⟩
theorem Tx.E_more_rows {k : Nat} {sp : Sp} (len : ∀ vs H Q E, sp vs H Q E → vs.length = 3)
    (hb : ∀ (cdv : Value) (A : Around) (outer : List Env) (s : Shared) (H : Hp) (vs : List V) (Q : VK) (E : XK), Room k (A.deeper (envOfC "more_rows" (defScope s_more_rows) s.heap.objs.size (He.ga K "more_rows") cdv)) → sp vs H Q E →
      ∃ t, PSs (cxOf CX0 P w K mg base n_more_rows "more_rows" (defScope s_more_rows) (He.ga K "more_rows") cdv A outer s H E).nox (defBody s_more_rows) t ∧ t { nx := fun _ H' => Q .non H', rt := Q } (start n_more_rows vs) H) : Fn1 P w K mg base (k + 1) "more_rows" ["capacity", "rows", "action"] [] sp := by
  obtain ⟨fd, F⟩ := T.D_more_rows
  exact ⟨_, fd, [], fd_ok F sc_more_rows len hb, T.m_more_rows, F.kp, F.bindsN (ps := ["capacity", "rows", "action"]) (fun _ _ _ _ _ _ us hl => match us, hl with | [_, _, _], _ => rfl), .nil⟩
theorem Tx.E_state_after {k : Nat} {sp : Sp} (len : ∀ vs H Q E, sp vs H Q E → vs.length = 3)
    (hb : ∀ (cdv : Value) (A : Around) (outer : List Env) (s : Shared) (H : Hp) (vs : List V) (Q : VK) (E : XK), Room k (A.deeper (envOfC "state_after" (defScope s_state_after) s.heap.objs.size (He.ga K "state_after") cdv)) → sp vs H Q E →
      ∃ t, PSs (cxOf CX0 P w K mg base n_state_after "state_after" (defScope s_state_after) (He.ga K "state_after") cdv A outer s H E).nox (defBody s_state_after) t ∧ t { nx := fun _ H' => Q .non H', rt := Q } (start n_state_after vs) H) : Fn1 P w K mg base (k + 1) "state_after" ["capacity", "state", "action"] [] sp := by
  obtain ⟨fd, F⟩ := T.D_state_after
  exact ⟨_, fd, [], fd_ok F sc_state_after len hb, T.m_state_after, F.kp, F.bindsN (ps := ["capacity", "state", "action"]) (fun _ _ _ _ _ _ us hl => match us, hl with | [_, _, _], _ => rfl), .nil⟩
theorem Tx.E_current_of {k : Nat} {sp : Sp} (len : ∀ vs H Q E, sp vs H Q E → vs.length = 2)
    (hb : ∀ (cdv : Value) (A : Around) (outer : List Env) (s : Shared) (H : Hp) (vs : List V) (Q : VK) (E : XK), Room k (A.deeper (envOfC "current_of" (defScope s_current_of) s.heap.objs.size (He.ga K "current_of") cdv)) → sp vs H Q E →
      ∃ t, PSs (cxOf CX0 P w K mg base n_current_of "current_of" (defScope s_current_of) (He.ga K "current_of") cdv A outer s H E).nox (defBody s_current_of) t ∧ t { nx := fun _ H' => Q .non H', rt := Q } (start n_current_of vs) H) : Fn1 P w K mg base (k + 1) "current_of" ["begin", "rows"] [] sp := by
  obtain ⟨fd, F⟩ := T.D_current_of
  exact ⟨_, fd, [], fd_ok F sc_current_of len hb, T.m_current_of, F.kp, F.bindsN (ps := ["begin", "rows"]) (fun _ _ _ _ _ _ us hl => match us, hl with | [_, _], _ => rfl), .nil⟩
theorem Tx.E_Collector___init__ {k : Nat} {sp : Sp} (len : ∀ vs H Q E, sp vs H Q E → vs.length = 2)
    (hb : ∀ (cdv : Value) (A : Around) (outer : List Env) (s : Shared) (H : Hp) (vs : List V) (Q : VK) (E : XK), Room k (A.deeper (envOfC "Collector.__init__" (defScope s_Collector___init__) s.heap.objs.size (He.ma K (He.ga K "Collector") "__init__") cdv)) → sp vs H Q E →
      ∃ t, PSs (cxOf CX0 P w K mg base n_Collector___init__ "Collector.__init__" (defScope s_Collector___init__) (He.ma K (He.ga K "Collector") "__init__") cdv A outer s H E).nox (defBody s_Collector___init__) t ∧ t { nx := fun _ H' => Q .non H', rt := Q } (start n_Collector___init__ vs) H) : Mk1 P w K mg base (k + 1) "Collector" (CC K) ["self", "capacity"] [] sp := by
  obtain ⟨fd, F⟩ := T.D_Collector___init__
  exact ⟨_, fd, [], fd_ok F sc_Collector___init__ len hb, T.m_Collector, T.mk_Collector, F.bindsN (ps := ["self", "capacity"]) (fun _ _ _ _ _ _ us hl => match us, hl with | [_, _], _ => rfl), .nil⟩
theorem Tx.E_Collector___eq__ {k : Nat} {sp : Sp} (len : ∀ vs H Q E, sp vs H Q E → vs.length = 2)
    (hb : ∀ (cdv : Value) (A : Around) (outer : List Env) (s : Shared) (H : Hp) (vs : List V) (Q : VK) (E : XK), Room k (A.deeper (envOfC "Collector.__eq__" (defScope s_Collector___eq__) s.heap.objs.size (He.ma K (He.ga K "Collector") "__eq__") cdv)) → sp vs H Q E →
      ∃ t, PSs (cxOf CX0 P w K mg base n_Collector___eq__ "Collector.__eq__" (defScope s_Collector___eq__) (He.ma K (He.ga K "Collector") "__eq__") cdv A outer s H E).nox (defBody s_Collector___eq__) t ∧ t { nx := fun _ H' => Q .non H', rt := Q } (start n_Collector___eq__ vs) H) : Mt1 P w K mg base (k + 1) (CC K) "__eq__" ["self", "other"] [] sp := by
  obtain ⟨fd, F⟩ := T.D_Collector___eq__
  exact ⟨_, fd, [], fd_ok F sc_Collector___eq__ len hb, T.c_Collector, T.me_Collector___eq__, F.bindsN (ps := ["self", "other"]) (fun _ _ _ _ _ _ us hl => match us, hl with | [_, _], _ => rfl), .nil⟩
theorem Tx.E_Collector___len__ {k : Nat} {sp : Sp} (len : ∀ vs H Q E, sp vs H Q E → vs.length = 1)
    (hb : ∀ (cdv : Value) (A : Around) (outer : List Env) (s : Shared) (H : Hp) (vs : List V) (Q : VK) (E : XK), Room k (A.deeper (envOfC "Collector.__len__" (defScope s_Collector___len__) s.heap.objs.size (He.ma K (He.ga K "Collector") "__len__") cdv)) → sp vs H Q E →
      ∃ t, PSs (cxOf CX0 P w K mg base n_Collector___len__ "Collector.__len__" (defScope s_Collector___len__) (He.ma K (He.ga K "Collector") "__len__") cdv A outer s H E).nox (defBody s_Collector___len__) t ∧ t { nx := fun _ H' => Q .non H', rt := Q } (start n_Collector___len__ vs) H) : Mt1 P w K mg base (k + 1) (CC K) "__len__" ["self"] [] sp := by
  obtain ⟨fd, F⟩ := T.D_Collector___len__
  exact ⟨_, fd, [], fd_ok F sc_Collector___len__ len hb, T.c_Collector, T.me_Collector___len__, F.bindsN (ps := ["self"]) (fun _ _ _ _ _ _ us hl => match us, hl with | [_], _ => rfl), .nil⟩
theorem Tx.E_Collector___str__ {k : Nat} {sp : Sp} (len : ∀ vs H Q E, sp vs H Q E → vs.length = 1)
    (hb : ∀ (cdv : Value) (A : Around) (outer : List Env) (s : Shared) (H : Hp) (vs : List V) (Q : VK) (E : XK), Room k (A.deeper (envOfC "Collector.__str__" (defScope s_Collector___str__) s.heap.objs.size (He.ma K (He.ga K "Collector") "__str__") cdv)) → sp vs H Q E →
      ∃ t, PSs (cxOf CX0 P w K mg base n_Collector___str__ "Collector.__str__" (defScope s_Collector___str__) (He.ma K (He.ga K "Collector") "__str__") cdv A outer s H E).nox (defBody s_Collector___str__) t ∧ t { nx := fun _ H' => Q .non H', rt := Q } (start n_Collector___str__ vs) H) : Mt1 P w K mg base (k + 1) (CC K) "__str__" ["self"] [] sp := by
  obtain ⟨fd, F⟩ := T.D_Collector___str__
  exact ⟨_, fd, [], fd_ok F sc_Collector___str__ len hb, T.c_Collector, T.me_Collector___str__, F.bindsN (ps := ["self"]) (fun _ _ _ _ _ _ us hl => match us, hl with | [_], _ => rfl), .nil⟩
theorem Tx.E_Collector___repr__ {k : Nat} {sp : Sp} (len : ∀ vs H Q E, sp vs H Q E → vs.length = 1)
    (hb : ∀ (cdv : Value) (A : Around) (outer : List Env) (s : Shared) (H : Hp) (vs : List V) (Q : VK) (E : XK), Room k (A.deeper (envOfC "Collector.__repr__" (defScope s_Collector___repr__) s.heap.objs.size (He.ma K (He.ga K "Collector") "__repr__") cdv)) → sp vs H Q E →
      ∃ t, PSs (cxOf CX0 P w K mg base n_Collector___repr__ "Collector.__repr__" (defScope s_Collector___repr__) (He.ma K (He.ga K "Collector") "__repr__") cdv A outer s H E).nox (defBody s_Collector___repr__) t ∧ t { nx := fun _ H' => Q .non H', rt := Q } (start n_Collector___repr__ vs) H) : Mt1 P w K mg base (k + 1) (CC K) "__repr__" ["self"] [] sp := by
  obtain ⟨fd, F⟩ := T.D_Collector___repr__
  exact ⟨_, fd, [], fd_ok F sc_Collector___repr__ len hb, T.c_Collector, T.me_Collector___repr__, F.bindsN (ps := ["self"]) (fun _ _ _ _ _ _ us hl => match us, hl with | [_], _ => rfl), .nil⟩
theorem Tx.E_Collector_start {k : Nat} {sp : Sp} (len : ∀ vs H Q E, sp vs H Q E → vs.length = 1)
    (hb : ∀ (cdv : Value) (A : Around) (outer : List Env) (s : Shared) (H : Hp) (vs : List V) (Q : VK) (E : XK), Room k (A.deeper (envOfC "Collector.start" (defScope s_Collector_start) s.heap.objs.size (He.ma K (He.ga K "Collector") "start") cdv)) → sp vs H Q E →
      ∃ t, PSs (cxOf CX0 P w K mg base n_Collector_start "Collector.start" (defScope s_Collector_start) (He.ma K (He.ga K "Collector") "start") cdv A outer s H E).nox (defBody s_Collector_start) t ∧ t { nx := fun _ H' => Q .non H', rt := Q } (start n_Collector_start vs) H) : Mt1 P w K mg base (k + 1) (CC K) "start" ["self"] [] sp := by
  obtain ⟨fd, F⟩ := T.D_Collector_start
  exact ⟨_, fd, [], fd_ok F sc_Collector_start len hb, T.c_Collector, T.me_Collector_start, F.bindsN (ps := ["self"]) (fun _ _ _ _ _ _ us hl => match us, hl with | [_], _ => rfl), .nil⟩
theorem Tx.E_Collector_entries {k : Nat} {sp : Sp} (len : ∀ vs H Q E, sp vs H Q E → vs.length = 1)
    (hb : ∀ (cdv : Value) (A : Around) (outer : List Env) (s : Shared) (H : Hp) (vs : List V) (Q : VK) (E : XK), Room k (A.deeper (envOfC "Collector.entries" (defScope s_Collector_entries) s.heap.objs.size (He.ma K (He.ga K "Collector") "entries") cdv)) → sp vs H Q E →
      ∃ t, PSs (cxOf CX0 P w K mg base n_Collector_entries "Collector.entries" (defScope s_Collector_entries) (He.ma K (He.ga K "Collector") "entries") cdv A outer s H E).nox (defBody s_Collector_entries) t ∧ t { nx := fun _ H' => Q .non H', rt := Q } (start n_Collector_entries vs) H) : Mt1 P w K mg base (k + 1) (CC K) "entries" ["self"] [] sp := by
  obtain ⟨fd, F⟩ := T.D_Collector_entries
  exact ⟨_, fd, [], fd_ok F sc_Collector_entries len hb, T.c_Collector, T.me_Collector_entries, F.bindsN (ps := ["self"]) (fun _ _ _ _ _ _ us hl => match us, hl with | [_], _ => rfl), .nil⟩
theorem Tx.E_Collector_current {k : Nat} {sp : Sp} (len : ∀ vs H Q E, sp vs H Q E → vs.length = 1)
    (hb : ∀ (cdv : Value) (A : Around) (outer : List Env) (s : Shared) (H : Hp) (vs : List V) (Q : VK) (E : XK), Room k (A.deeper (envOfC "Collector.current" (defScope s_Collector_current) s.heap.objs.size (He.ma K (He.ga K "Collector") "current") cdv)) → sp vs H Q E →
      ∃ t, PSs (cxOf CX0 P w K mg base n_Collector_current "Collector.current" (defScope s_Collector_current) (He.ma K (He.ga K "Collector") "current") cdv A outer s H E).nox (defBody s_Collector_current) t ∧ t { nx := fun _ H' => Q .non H', rt := Q } (start n_Collector_current vs) H) : Mt1 P w K mg base (k + 1) (CC K) "current" ["self"] [] sp := by
  obtain ⟨fd, F⟩ := T.D_Collector_current
  exact ⟨_, fd, [], fd_ok F sc_Collector_current len hb, T.c_Collector, T.me_Collector_current, F.bindsN (ps := ["self"]) (fun _ _ _ _ _ _ us hl => match us, hl with | [_], _ => rfl), .nil⟩
theorem Tx.E_Collector_history {k : Nat} {sp : Sp} (len : ∀ vs H Q E, sp vs H Q E → vs.length = 1)
    (hb : ∀ (cdv : Value) (A : Around) (outer : List Env) (s : Shared) (H : Hp) (vs : List V) (Q : VK) (E : XK), Room k (A.deeper (envOfC "Collector.history" (defScope s_Collector_history) s.heap.objs.size (He.ma K (He.ga K "Collector") "history") cdv)) → sp vs H Q E →
      ∃ t, PSs (cxOf CX0 P w K mg base n_Collector_history "Collector.history" (defScope s_Collector_history) (He.ma K (He.ga K "Collector") "history") cdv A outer s H E).nox (defBody s_Collector_history) t ∧ t { nx := fun _ H' => Q .non H', rt := Q } (start n_Collector_history vs) H) : Mt1 P w K mg base (k + 1) (CC K) "history" ["self"] [] sp := by
  obtain ⟨fd, F⟩ := T.D_Collector_history
  exact ⟨_, fd, [], fd_ok F sc_Collector_history len hb, T.c_Collector, T.me_Collector_history, F.bindsN (ps := ["self"]) (fun _ _ _ _ _ _ us hl => match us, hl with | [_], _ => rfl), .nil⟩
theorem Tx.E_Collector_arrived {k : Nat} {sp : Sp} (len : ∀ vs H Q E, sp vs H Q E → vs.length = 1)
    (hb : ∀ (cdv : Value) (A : Around) (outer : List Env) (s : Shared) (H : Hp) (vs : List V) (Q : VK) (E : XK), Room k (A.deeper (envOfC "Collector.arrived" (defScope s_Collector_arrived) s.heap.objs.size (He.ma K (He.ga K "Collector") "arrived") cdv)) → sp vs H Q E →
      ∃ t, PSs (cxOf CX0 P w K mg base n_Collector_arrived "Collector.arrived" (defScope s_Collector_arrived) (He.ma K (He.ga K "Collector") "arrived") cdv A outer s H E).nox (defBody s_Collector_arrived) t ∧ t { nx := fun _ H' => Q .non H', rt := Q } (start n_Collector_arrived vs) H) : Mt1 P w K mg base (k + 1) (CC K) "arrived" ["self"] [] sp := by
  obtain ⟨fd, F⟩ := T.D_Collector_arrived
  exact ⟨_, fd, [], fd_ok F sc_Collector_arrived len hb, T.c_Collector, T.me_Collector_arrived, F.bindsN (ps := ["self"]) (fun _ _ _ _ _ _ us hl => match us, hl with | [_], _ => rfl), .nil⟩
theorem Tx.E_Collector_change {k : Nat} {sp : Sp} (len : ∀ vs H Q E, sp vs H Q E → vs.length = 2)
    (hb : ∀ (cdv : Value) (A : Around) (outer : List Env) (s : Shared) (H : Hp) (vs : List V) (Q : VK) (E : XK), Room k (A.deeper (envOfC "Collector.change" (defScope s_Collector_change) s.heap.objs.size (He.ma K (He.ga K "Collector") "change") cdv)) → sp vs H Q E →
      ∃ t, PSs (cxOf CX0 P w K mg base n_Collector_change "Collector.change" (defScope s_Collector_change) (He.ma K (He.ga K "Collector") "change") cdv A outer s H E).nox (defBody s_Collector_change) t ∧ t { nx := fun _ H' => Q .non H', rt := Q } (start n_Collector_change vs) H) : Mt1 P w K mg base (k + 1) (CC K) "change" ["self", "action"] [] sp := by
  obtain ⟨fd, F⟩ := T.D_Collector_change
  exact ⟨_, fd, [], fd_ok F sc_Collector_change len hb, T.c_Collector, T.me_Collector_change, F.bindsN (ps := ["self", "action"]) (fun _ _ _ _ _ _ us hl => match us, hl with | [_, _], _ => rfl), .nil⟩
theorem Tx.E_Collector_do {k : Nat} {sp : Sp} (len : ∀ vs H Q E, sp vs H Q E → vs.length = 2)
    (hb : ∀ (cdv : Value) (A : Around) (outer : List Env) (s : Shared) (H : Hp) (vs : List V) (Q : VK) (E : XK), Room k (A.deeper (envOfC "Collector.do" (defScope s_Collector_do) s.heap.objs.size (He.ma K (He.ga K "Collector") "do") cdv)) → sp vs H Q E →
      ∃ t, PSs (cxOf CX0 P w K mg base n_Collector_do "Collector.do" (defScope s_Collector_do) (He.ma K (He.ga K "Collector") "do") cdv A outer s H E).nox (defBody s_Collector_do) t ∧ t { nx := fun _ H' => Q .non H', rt := Q } (start n_Collector_do vs) H) : Mt1 P w K mg base (k + 1) (CC K) "do" ["self", "action"] [] sp := by
  obtain ⟨fd, F⟩ := T.D_Collector_do
  exact ⟨_, fd, [], fd_ok F sc_Collector_do len hb, T.c_Collector, T.me_Collector_do, F.bindsN (ps := ["self", "action"]) (fun _ _ _ _ _ _ us hl => match us, hl with | [_, _], _ => rfl), .nil⟩
theorem Tx.G_Collector_arrive {k : Nat} {sp : Sp} (len : ∀ vs H Q E, sp vs H Q E → vs.length = 3)
    (hb : ∀ (cdv : Value) (A : Around) (outer : List Env) (s : Shared) (H : Hp) (vs : List V) (Q : VK) (E : XK), Room k (A.deeper (envOfC "Collector.arrive" (defScope s_Collector_arrive) s.heap.objs.size (He.ma K (He.ga K "Collector") "arrive") cdv)) → sp vs H Q E →
      ∃ t, PSs (cxOf CX0 P w K mg base n_Collector_arrive "Collector.arrive" (defScope s_Collector_arrive) (He.ma K (He.ga K "Collector") "arrive") cdv A outer s H E).nox (defBody s_Collector_arrive) t ∧ t { nx := fun _ H' => Q .non H', rt := Q } (start n_Collector_arrive vs) H) : ∃ fd, FnOk P w K mg base CX0 (k + 1) (He.ma K (He.ga K "Collector") "arrive") fd ["self", "name", "times"] sp ∧ FunD K "arrive" "Collector.arrive" (defArgs s_Collector_arrive) (defBody s_Collector_arrive) (defScope s_Collector_arrive) (([.int 1] : List He.Dv).map (He.Dv.v K)) (([] : List (Str × He.Dv)).map fun q => (q.1, q.2.v K)) (He.ma K (He.ga K "Collector") "arrive") fd := by
  obtain ⟨fd, F⟩ := T.D_Collector_arrive
  exact ⟨fd, fd_ok F sc_Collector_arrive len hb, F⟩
theorem Tx.E_Collector_merge {k : Nat} {sp : Sp} (len : ∀ vs H Q E, sp vs H Q E → vs.length = 2)
    (hb : ∀ (cdv : Value) (A : Around) (outer : List Env) (s : Shared) (H : Hp) (vs : List V) (Q : VK) (E : XK), Room k (A.deeper (envOfC "Collector.merge" (defScope s_Collector_merge) s.heap.objs.size (He.ma K (He.ga K "Collector") "merge") cdv)) → sp vs H Q E →
      ∃ t, PSs (cxOf CX0 P w K mg base n_Collector_merge "Collector.merge" (defScope s_Collector_merge) (He.ma K (He.ga K "Collector") "merge") cdv A outer s H E).nox (defBody s_Collector_merge) t ∧ t { nx := fun _ H' => Q .non H', rt := Q } (start n_Collector_merge vs) H) : Mt1 P w K mg base (k + 1) (CC K) "merge" ["self", "summary"] [] sp := by
  obtain ⟨fd, F⟩ := T.D_Collector_merge
  exact ⟨_, fd, [], fd_ok F sc_Collector_merge len hb, T.c_Collector, T.me_Collector_merge, F.bindsN (ps := ["self", "summary"]) (fun _ _ _ _ _ _ us hl => match us, hl with | [_, _], _ => rfl), .nil⟩
theorem Tx.G_Collector_insert_at {k : Nat} {sp : Sp} (len : ∀ vs H Q E, sp vs H Q E → vs.length = 4)
    (hb : ∀ (cdv : Value) (A : Around) (outer : List Env) (s : Shared) (H : Hp) (vs : List V) (Q : VK) (E : XK), Room k (A.deeper (envOfC "Collector.insert_at" (defScope s_Collector_insert_at) s.heap.objs.size (He.ma K (He.ga K "Collector") "insert_at") cdv)) → sp vs H Q E →
      ∃ t, PSs (cxOf CX0 P w K mg base n_Collector_insert_at "Collector.insert_at" (defScope s_Collector_insert_at) (He.ma K (He.ga K "Collector") "insert_at") cdv A outer s H E).nox (defBody s_Collector_insert_at) t ∧ t { nx := fun _ H' => Q .non H', rt := Q } (start n_Collector_insert_at vs) H) : ∃ fd, FnOk P w K mg base CX0 (k + 1) (He.ma K (He.ga K "Collector") "insert_at") fd ["self", "index", "name", "times"] sp ∧ FunD K "insert_at" "Collector.insert_at" (defArgs s_Collector_insert_at) (defBody s_Collector_insert_at) (defScope s_Collector_insert_at) (([.int 1] : List He.Dv).map (He.Dv.v K)) (([] : List (Str × He.Dv)).map fun q => (q.1, q.2.v K)) (He.ma K (He.ga K "Collector") "insert_at") fd := by
  obtain ⟨fd, F⟩ := T.D_Collector_insert_at
  exact ⟨fd, fd_ok F sc_Collector_insert_at len hb, F⟩
theorem Tx.E_Collector_restart {k : Nat} {sp : Sp} (len : ∀ vs H Q E, sp vs H Q E → vs.length = 2)
    (hb : ∀ (cdv : Value) (A : Around) (outer : List Env) (s : Shared) (H : Hp) (vs : List V) (Q : VK) (E : XK), Room k (A.deeper (envOfC "Collector.restart" (defScope s_Collector_restart) s.heap.objs.size (He.ma K (He.ga K "Collector") "restart") cdv)) → sp vs H Q E →
      ∃ t, PSs (cxOf CX0 P w K mg base n_Collector_restart "Collector.restart" (defScope s_Collector_restart) (He.ma K (He.ga K "Collector") "restart") cdv A outer s H E).nox (defBody s_Collector_restart) t ∧ t { nx := fun _ H' => Q .non H', rt := Q } (start n_Collector_restart vs) H) : Mt1 P w K mg base (k + 1) (CC K) "restart" ["self", "summary"] [] sp := by
  obtain ⟨fd, F⟩ := T.D_Collector_restart
  exact ⟨_, fd, [], fd_ok F sc_Collector_restart len hb, T.c_Collector, T.me_Collector_restart, F.bindsN (ps := ["self", "summary"]) (fun _ _ _ _ _ _ us hl => match us, hl with | [_, _], _ => rfl), .nil⟩
theorem Tx.G_Collector_do_all {k : Nat} {sp : Sp} (len : ∀ vs H Q E, sp vs H Q E → vs.length = 3)
    (hb : ∀ (cdv : Value) (A : Around) (outer : List Env) (s : Shared) (H : Hp) (vs : List V) (Q : VK) (E : XK), Room k (A.deeper (envOfC "Collector.do_all" (defScope s_Collector_do_all) s.heap.objs.size (He.ma K (He.ga K "Collector") "do_all") cdv)) → sp vs H Q E →
      ∃ t, PSs (cxOf CX0 P w K mg base n_Collector_do_all "Collector.do_all" (defScope s_Collector_do_all) (He.ma K (He.ga K "Collector") "do_all") cdv A outer s H E).nox (defBody s_Collector_do_all) t ∧ t { nx := fun _ H' => Q .non H', rt := Q } (start n_Collector_do_all vs) H) : ∃ fd, FnOk P w K mg base CX0 (k + 1) (He.ma K (He.ga K "Collector") "do_all") fd ["self", "actions", "observer"] sp ∧ FunD K "do_all" "Collector.do_all" (defArgs s_Collector_do_all) (defBody s_Collector_do_all) (defScope s_Collector_do_all) (([] : List He.Dv).map (He.Dv.v K)) (([("observer", .non)] : List (Str × He.Dv)).map fun q => (q.1, q.2.v K)) (He.ma K (He.ga K "Collector") "do_all") fd := by
  obtain ⟨fd, F⟩ := T.D_Collector_do_all
  exact ⟨fd, fd_ok F sc_Collector_do_all len hb, F⟩
theorem Tx.E_Collector_preview {k : Nat} {sp : Sp} (len : ∀ vs H Q E, sp vs H Q E → vs.length = 2)
    (hb : ∀ (cdv : Value) (A : Around) (outer : List Env) (s : Shared) (H : Hp) (vs : List V) (Q : VK) (E : XK), Room k (A.deeper (envOfC "Collector.preview" (defScope s_Collector_preview) s.heap.objs.size (He.ma K (He.ga K "Collector") "preview") cdv)) → sp vs H Q E →
      ∃ t, PSs (cxOf CX0 P w K mg base n_Collector_preview "Collector.preview" (defScope s_Collector_preview) (He.ma K (He.ga K "Collector") "preview") cdv A outer s H E).nox (defBody s_Collector_preview) t ∧ t { nx := fun _ H' => Q .non H', rt := Q } (start n_Collector_preview vs) H) : Mt1 P w K mg base (k + 1) (CC K) "preview" ["self", "actions"] [] sp := by
  obtain ⟨fd, F⟩ := T.D_Collector_preview
  exact ⟨_, fd, [], fd_ok F sc_Collector_preview len hb, T.c_Collector, T.me_Collector_preview, F.bindsN (ps := ["self", "actions"]) (fun _ _ _ _ _ _ us hl => match us, hl with | [_, _], _ => rfl), .nil⟩
theorem Tx.E_Collector_undo {k : Nat} {sp : Sp} (len : ∀ vs H Q E, sp vs H Q E → vs.length = 1)
    (hb : ∀ (cdv : Value) (A : Around) (outer : List Env) (s : Shared) (H : Hp) (vs : List V) (Q : VK) (E : XK), Room k (A.deeper (envOfC "Collector.undo" (defScope s_Collector_undo) s.heap.objs.size (He.ma K (He.ga K "Collector") "undo") cdv)) → sp vs H Q E →
      ∃ t, PSs (cxOf CX0 P w K mg base n_Collector_undo "Collector.undo" (defScope s_Collector_undo) (He.ma K (He.ga K "Collector") "undo") cdv A outer s H E).nox (defBody s_Collector_undo) t ∧ t { nx := fun _ H' => Q .non H', rt := Q } (start n_Collector_undo vs) H) : Mt1 P w K mg base (k + 1) (CC K) "undo" ["self"] [] sp := by
  obtain ⟨fd, F⟩ := T.D_Collector_undo
  exact ⟨_, fd, [], fd_ok F sc_Collector_undo len hb, T.c_Collector, T.me_Collector_undo, F.bindsN (ps := ["self"]) (fun _ _ _ _ _ _ us hl => match us, hl with | [_], _ => rfl), .nil⟩
theorem Tx.E_late_change {k : Nat} {sp : Sp} (len : ∀ vs H Q E, sp vs H Q E → vs.length = 4)
    (hb : ∀ (cdv : Value) (A : Around) (outer : List Env) (s : Shared) (H : Hp) (vs : List V) (Q : VK) (E : XK), Room k (A.deeper (envOfC "late_change" (defScope s_late_change) s.heap.objs.size (He.ga K "late_change") cdv)) → sp vs H Q E →
      ∃ t, PSs (cxOf CX0 P w K mg base n_late_change "late_change" (defScope s_late_change) (He.ga K "late_change") cdv A outer s H E).nox (defBody s_late_change) t ∧ t { nx := fun _ H' => Q .non H', rt := Q } (start n_late_change vs) H) : Fn1 P w K mg base (k + 1) "late_change" ["start", "order", "index", "name"] [] sp := by
  obtain ⟨fd, F⟩ := T.D_late_change
  exact ⟨_, fd, [], fd_ok F sc_late_change len hb, T.m_late_change, F.kp, F.bindsN (ps := ["start", "order", "index", "name"]) (fun _ _ _ _ _ _ us hl => match us, hl with | [_, _, _, _], _ => rfl), .nil⟩
theorem Tx.E__law_cell {k : Nat} {sp : Sp} (len : ∀ vs H Q E, sp vs H Q E → vs.length = 2)
    (hb : ∀ (cdv : Value) (A : Around) (outer : List Env) (s : Shared) (H : Hp) (vs : List V) (Q : VK) (E : XK), Room k (A.deeper (envOfC "_law_cell" (defScope s__law_cell) s.heap.objs.size (He.ga K "_law_cell") cdv)) → sp vs H Q E →
      ∃ t, PSs (cxOf CX0 P w K mg base n__law_cell "_law_cell" (defScope s__law_cell) (He.ga K "_law_cell") cdv A outer s H E).nox (defBody s__law_cell) t ∧ t { nx := fun _ H' => Q .non H', rt := Q } (start n__law_cell vs) H) : Fn1 P w K mg base (k + 1) "_law_cell" ["_law_script", "_law_k"] [] sp := by
  obtain ⟨fd, F⟩ := T.D__law_cell
  exact ⟨_, fd, [], fd_ok F sc__law_cell len hb, T.m__law_cell, F.kp, F.bindsN (ps := ["_law_script", "_law_k"]) (fun _ _ _ _ _ _ us hl => match us, hl with | [_, _], _ => rfl), .nil⟩
theorem Tx.E__law_pool {k : Nat} {sp : Sp} (len : ∀ vs H Q E, sp vs H Q E → vs.length = 1)
    (hb : ∀ (cdv : Value) (A : Around) (outer : List Env) (s : Shared) (H : Hp) (vs : List V) (Q : VK) (E : XK), Room k (A.deeper (envOfC "_law_pool" (defScope s__law_pool) s.heap.objs.size (He.ga K "_law_pool") cdv)) → sp vs H Q E →
      ∃ t, PSs (cxOf CX0 P w K mg base n__law_pool "_law_pool" (defScope s__law_pool) (He.ga K "_law_pool") cdv A outer s H E).nox (defBody s__law_pool) t ∧ t { nx := fun _ H' => Q .non H', rt := Q } (start n__law_pool vs) H) : Fn1 P w K mg base (k + 1) "_law_pool" ["_law_cell_here"] [] sp := by
  obtain ⟨fd, F⟩ := T.D__law_pool
  exact ⟨_, fd, [], fd_ok F sc__law_pool len hb, T.m__law_pool, F.kp, F.bindsN (ps := ["_law_cell_here"]) (fun _ _ _ _ _ _ us hl => match us, hl with | [_], _ => rfl), .nil⟩
theorem Tx.E__law_draw {k : Nat} {sp : Sp} (len : ∀ vs H Q E, sp vs H Q E → vs.length = 2)
    (hb : ∀ (cdv : Value) (A : Around) (outer : List Env) (s : Shared) (H : Hp) (vs : List V) (Q : VK) (E : XK), Room k (A.deeper (envOfC "_law_draw" (defScope s__law_draw) s.heap.objs.size (He.ga K "_law_draw") cdv)) → sp vs H Q E →
      ∃ t, PSs (cxOf CX0 P w K mg base n__law_draw "_law_draw" (defScope s__law_draw) (He.ga K "_law_draw") cdv A outer s H E).nox (defBody s__law_draw) t ∧ t { nx := fun _ H' => Q .non H', rt := Q } (start n__law_draw vs) H) : Fn1 P w K mg base (k + 1) "_law_draw" ["_law_pool_here", "_law_many"] [] sp := by
  obtain ⟨fd, F⟩ := T.D__law_draw
  exact ⟨_, fd, [], fd_ok F sc__law_draw len hb, T.m__law_draw, F.kp, F.bindsN (ps := ["_law_pool_here", "_law_many"]) (fun _ _ _ _ _ _ us hl => match us, hl with | [_, _], _ => rfl), .nil⟩
theorem Tx.E__law_words {k : Nat} {sp : Sp} (len : ∀ vs H Q E, sp vs H Q E → vs.length = 2)
    (hb : ∀ (cdv : Value) (A : Around) (outer : List Env) (s : Shared) (H : Hp) (vs : List V) (Q : VK) (E : XK), Room k (A.deeper (envOfC "_law_words" (defScope s__law_words) s.heap.objs.size (He.ga K "_law_words") cdv)) → sp vs H Q E →
      ∃ t, PSs (cxOf CX0 P w K mg base n__law_words "_law_words" (defScope s__law_words) (He.ga K "_law_words") cdv A outer s H E).nox (defBody s__law_words) t ∧ t { nx := fun _ H' => Q .non H', rt := Q } (start n__law_words vs) H) : Fn1 P w K mg base (k + 1) "_law_words" ["_law_pool_here", "_law_many"] [] sp := by
  obtain ⟨fd, F⟩ := T.D__law_words
  exact ⟨_, fd, [], fd_ok F sc__law_words len hb, T.m__law_words, F.kp, F.bindsN (ps := ["_law_pool_here", "_law_many"]) (fun _ _ _ _ _ _ us hl => match us, hl with | [_, _], _ => rfl), .nil⟩
theorem Tx.E__law_often {k : Nat} {sp : Sp} (len : ∀ vs H Q E, sp vs H Q E → vs.length = 1)
    (hb : ∀ (cdv : Value) (A : Around) (outer : List Env) (s : Shared) (H : Hp) (vs : List V) (Q : VK) (E : XK), Room k (A.deeper (envOfC "_law_often" (defScope s__law_often) s.heap.objs.size (He.ga K "_law_often") cdv)) → sp vs H Q E →
      ∃ t, PSs (cxOf CX0 P w K mg base n__law_often "_law_often" (defScope s__law_often) (He.ga K "_law_often") cdv A outer s H E).nox (defBody s__law_often) t ∧ t { nx := fun _ H' => Q .non H', rt := Q } (start n__law_often vs) H) : Fn1 P w K mg base (k + 1) "_law_often" ["_law_pool_here"] [] sp := by
  obtain ⟨fd, F⟩ := T.D__law_often
  exact ⟨_, fd, [], fd_ok F sc__law_often len hb, T.m__law_often, F.kp, F.bindsN (ps := ["_law_pool_here"]) (fun _ _ _ _ _ _ us hl => match us, hl with | [_], _ => rfl), .nil⟩
theorem Tx.E__law_bag {k : Nat} {sp : Sp} (len : ∀ vs H Q E, sp vs H Q E → vs.length = 3)
    (hb : ∀ (cdv : Value) (A : Around) (outer : List Env) (s : Shared) (H : Hp) (vs : List V) (Q : VK) (E : XK), Room k (A.deeper (envOfC "_law_bag" (defScope s__law_bag) s.heap.objs.size (He.ga K "_law_bag") cdv)) → sp vs H Q E →
      ∃ t, PSs (cxOf CX0 P w K mg base n__law_bag "_law_bag" (defScope s__law_bag) (He.ga K "_law_bag") cdv A outer s H E).nox (defBody s__law_bag) t ∧ t { nx := fun _ H' => Q .non H', rt := Q } (start n__law_bag vs) H) : Fn1 P w K mg base (k + 1) "_law_bag" ["_law_pool_here", "_law_words_here", "_law_most"] [] sp := by
  obtain ⟨fd, F⟩ := T.D__law_bag
  exact ⟨_, fd, [], fd_ok F sc__law_bag len hb, T.m__law_bag, F.kp, F.bindsN (ps := ["_law_pool_here", "_law_words_here", "_law_most"]) (fun _ _ _ _ _ _ us hl => match us, hl with | [_, _, _], _ => rfl), .nil⟩
theorem Tx.E__law_path {k : Nat} {sp : Sp} (len : ∀ vs H Q E, sp vs H Q E → vs.length = 4)
    (hb : ∀ (cdv : Value) (A : Around) (outer : List Env) (s : Shared) (H : Hp) (vs : List V) (Q : VK) (E : XK), Room k (A.deeper (envOfC "_law_path" (defScope s__law_path) s.heap.objs.size (He.ga K "_law_path") cdv)) → sp vs H Q E →
      ∃ t, PSs (cxOf CX0 P w K mg base n__law_path "_law_path" (defScope s__law_path) (He.ga K "_law_path") cdv A outer s H E).nox (defBody s__law_path) t ∧ t { nx := fun _ H' => Q .non H', rt := Q } (start n__law_path vs) H) : Fn1 P w K mg base (k + 1) "_law_path" ["_law_pool_here", "_law_words_here", "_law_many", "_law_most"] [] sp := by
  obtain ⟨fd, F⟩ := T.D__law_path
  exact ⟨_, fd, [], fd_ok F sc__law_path len hb, T.m__law_path, F.kp, F.bindsN (ps := ["_law_pool_here", "_law_words_here", "_law_many", "_law_most"]) (fun _ _ _ _ _ _ us hl => match us, hl with | [_, _, _, _], _ => rfl), .nil⟩
theorem Tx.E__law_run {k : Nat} {sp : Sp} (len : ∀ vs H Q E, sp vs H Q E → vs.length = 4)
    (hb : ∀ (cdv : Value) (A : Around) (outer : List Env) (s : Shared) (H : Hp) (vs : List V) (Q : VK) (E : XK), Room k (A.deeper (envOfC "_law_run" (defScope s__law_run) s.heap.objs.size (He.ga K "_law_run") cdv)) → sp vs H Q E →
      ∃ t, PSs (cxOf CX0 P w K mg base n__law_run "_law_run" (defScope s__law_run) (He.ga K "_law_run") cdv A outer s H E).nox (defBody s__law_run) t ∧ t { nx := fun _ H' => Q .non H', rt := Q } (start n__law_run vs) H) : Fn1 P w K mg base (k + 1) "_law_run" ["_law_width", "_law_held_here", "_law_word", "_law_often_here"] [] sp := by
  obtain ⟨fd, F⟩ := T.D__law_run
  exact ⟨_, fd, [], fd_ok F sc__law_run len hb, T.m__law_run, F.kp, F.bindsN (ps := ["_law_width", "_law_held_here", "_law_word", "_law_often_here"]) (fun _ _ _ _ _ _ us hl => match us, hl with | [_, _, _, _], _ => rfl), .nil⟩
theorem Tx.E__law_played {k : Nat} {sp : Sp} (len : ∀ vs H Q E, sp vs H Q E → vs.length = 3)
    (hb : ∀ (cdv : Value) (A : Around) (outer : List Env) (s : Shared) (H : Hp) (vs : List V) (Q : VK) (E : XK), Room k (A.deeper (envOfC "_law_played" (defScope s__law_played) s.heap.objs.size (He.ga K "_law_played") cdv)) → sp vs H Q E →
      ∃ t, PSs (cxOf CX0 P w K mg base n__law_played "_law_played" (defScope s__law_played) (He.ga K "_law_played") cdv A outer s H E).nox (defBody s__law_played) t ∧ t { nx := fun _ H' => Q .non H', rt := Q } (start n__law_played vs) H) : Fn1 P w K mg base (k + 1) "_law_played" ["_law_width", "_law_held_here", "_law_path_here"] [] sp := by
  obtain ⟨fd, F⟩ := T.D__law_played
  exact ⟨_, fd, [], fd_ok F sc__law_played len hb, T.m__law_played, F.kp, F.bindsN (ps := ["_law_width", "_law_held_here", "_law_path_here"]) (fun _ _ _ _ _ _ us hl => match us, hl with | [_, _, _], _ => rfl), .nil⟩
theorem Tx.E__law_flat {k : Nat} {sp : Sp} (len : ∀ vs H Q E, sp vs H Q E → vs.length = 1)
    (hb : ∀ (cdv : Value) (A : Around) (outer : List Env) (s : Shared) (H : Hp) (vs : List V) (Q : VK) (E : XK), Room k (A.deeper (envOfC "_law_flat" (defScope s__law_flat) s.heap.objs.size (He.ga K "_law_flat") cdv)) → sp vs H Q E →
      ∃ t, PSs (cxOf CX0 P w K mg base n__law_flat "_law_flat" (defScope s__law_flat) (He.ga K "_law_flat") cdv A outer s H E).nox (defBody s__law_flat) t ∧ t { nx := fun _ H' => Q .non H', rt := Q } (start n__law_flat vs) H) : Fn1 P w K mg base (k + 1) "_law_flat" ["_law_held_here"] [] sp := by
  obtain ⟨fd, F⟩ := T.D__law_flat
  exact ⟨_, fd, [], fd_ok F sc__law_flat len hb, T.m__law_flat, F.kp, F.bindsN (ps := ["_law_held_here"]) (fun _ _ _ _ _ _ us hl => match us, hl with | [_], _ => rfl), .nil⟩
theorem Tx.E__law_held {k : Nat} {sp : Sp} (len : ∀ vs H Q E, sp vs H Q E → vs.length = 1)
    (hb : ∀ (cdv : Value) (A : Around) (outer : List Env) (s : Shared) (H : Hp) (vs : List V) (Q : VK) (E : XK), Room k (A.deeper (envOfC "_law_held" (defScope s__law_held) s.heap.objs.size (He.ga K "_law_held") cdv)) → sp vs H Q E →
      ∃ t, PSs (cxOf CX0 P w K mg base n__law_held "_law_held" (defScope s__law_held) (He.ga K "_law_held") cdv A outer s H E).nox (defBody s__law_held) t ∧ t { nx := fun _ H' => Q .non H', rt := Q } (start n__law_held vs) H) : Fn1 P w K mg base (k + 1) "_law_held" ["_law_bag_here"] [] sp := by
  obtain ⟨fd, F⟩ := T.D__law_held
  exact ⟨_, fd, [], fd_ok F sc__law_held len hb, T.m__law_held, F.kp, F.bindsN (ps := ["_law_bag_here"]) (fun _ _ _ _ _ _ us hl => match us, hl with | [_], _ => rfl), .nil⟩
theorem Tx.E__law_merged {k : Nat} {sp : Sp} (len : ∀ vs H Q E, sp vs H Q E → vs.length = 3)
    (hb : ∀ (cdv : Value) (A : Around) (outer : List Env) (s : Shared) (H : Hp) (vs : List V) (Q : VK) (E : XK), Room k (A.deeper (envOfC "_law_merged" (defScope s__law_merged) s.heap.objs.size (He.ga K "_law_merged") cdv)) → sp vs H Q E →
      ∃ t, PSs (cxOf CX0 P w K mg base n__law_merged "_law_merged" (defScope s__law_merged) (He.ga K "_law_merged") cdv A outer s H E).nox (defBody s__law_merged) t ∧ t { nx := fun _ H' => Q .non H', rt := Q } (start n__law_merged vs) H) : Fn1 P w K mg base (k + 1) "_law_merged" ["_law_width", "_law_one_bag", "_law_more_bag"] [] sp := by
  obtain ⟨fd, F⟩ := T.D__law_merged
  exact ⟨_, fd, [], fd_ok F sc__law_merged len hb, T.m__law_merged, F.kp, F.bindsN (ps := ["_law_width", "_law_one_bag", "_law_more_bag"]) (fun _ _ _ _ _ _ us hl => match us, hl with | [_, _, _], _ => rfl), .nil⟩
theorem Tx.E__law_text {k : Nat} {sp : Sp} (len : ∀ vs H Q E, sp vs H Q E → vs.length = 1)
    (hb : ∀ (cdv : Value) (A : Around) (outer : List Env) (s : Shared) (H : Hp) (vs : List V) (Q : VK) (E : XK), Room k (A.deeper (envOfC "_law_text" (defScope s__law_text) s.heap.objs.size (He.ga K "_law_text") cdv)) → sp vs H Q E →
      ∃ t, PSs (cxOf CX0 P w K mg base n__law_text "_law_text" (defScope s__law_text) (He.ga K "_law_text") cdv A outer s H E).nox (defBody s__law_text) t ∧ t { nx := fun _ H' => Q .non H', rt := Q } (start n__law_text vs) H) : Fn1 P w K mg base (k + 1) "_law_text" ["_law_bag_here"] [] sp := by
  obtain ⟨fd, F⟩ := T.D__law_text
  exact ⟨_, fd, [], fd_ok F sc__law_text len hb, T.m__law_text, F.kp, F.bindsN (ps := ["_law_bag_here"]) (fun _ _ _ _ _ _ us hl => match us, hl with | [_], _ => rfl), .nil⟩
theorem Tx.E__law_now {k : Nat} {sp : Sp} (len : ∀ vs H Q E, sp vs H Q E → vs.length = 2)
    (hb : ∀ (cdv : Value) (A : Around) (outer : List Env) (s : Shared) (H : Hp) (vs : List V) (Q : VK) (E : XK), Room k (A.deeper (envOfC "_law_now" (defScope s__law_now) s.heap.objs.size (He.ga K "_law_now") cdv)) → sp vs H Q E →
      ∃ t, PSs (cxOf CX0 P w K mg base n__law_now "_law_now" (defScope s__law_now) (He.ga K "_law_now") cdv A outer s H E).nox (defBody s__law_now) t ∧ t { nx := fun _ H' => Q .non H', rt := Q } (start n__law_now vs) H) : Fn1 P w K mg base (k + 1) "_law_now" ["_law_width", "_law_state"] [] sp := by
  obtain ⟨fd, F⟩ := T.D__law_now
  exact ⟨_, fd, [], fd_ok F sc__law_now len hb, T.m__law_now, F.kp, F.bindsN (ps := ["_law_width", "_law_state"]) (fun _ _ _ _ _ _ us hl => match us, hl with | [_, _], _ => rfl), .nil⟩
theorem Tx.E__law_plain {k : Nat} {sp : Sp} (len : ∀ vs H Q E, sp vs H Q E → vs.length = 4)
    (hb : ∀ (cdv : Value) (A : Around) (outer : List Env) (s : Shared) (H : Hp) (vs : List V) (Q : VK) (E : XK), Room k (A.deeper (envOfC "_law_plain" (defScope s__law_plain) s.heap.objs.size (He.ga K "_law_plain") cdv)) → sp vs H Q E →
      ∃ t, PSs (cxOf CX0 P w K mg base n__law_plain "_law_plain" (defScope s__law_plain) (He.ga K "_law_plain") cdv A outer s H E).nox (defBody s__law_plain) t ∧ t { nx := fun _ H' => Q .non H', rt := Q } (start n__law_plain vs) H) : Fn1 P w K mg base (k + 1) "_law_plain" ["_law_pool_here", "_law_width", "_law_words_here", "_law_size"] [] sp := by
  obtain ⟨fd, F⟩ := T.D__law_plain
  exact ⟨_, fd, [], fd_ok F sc__law_plain len hb, T.m__law_plain, F.kp, F.bindsN (ps := ["_law_pool_here", "_law_width", "_law_words_here", "_law_size"]) (fun _ _ _ _ _ _ us hl => match us, hl with | [_, _, _, _], _ => rfl), .nil⟩
theorem Tx.E__law_done {k : Nat} {sp : Sp} (len : ∀ vs H Q E, sp vs H Q E → vs.length = 2)
    (hb : ∀ (cdv : Value) (A : Around) (outer : List Env) (s : Shared) (H : Hp) (vs : List V) (Q : VK) (E : XK), Room k (A.deeper (envOfC "_law_done" (defScope s__law_done) s.heap.objs.size (He.ga K "_law_done") cdv)) → sp vs H Q E →
      ∃ t, PSs (cxOf CX0 P w K mg base n__law_done "_law_done" (defScope s__law_done) (He.ga K "_law_done") cdv A outer s H E).nox (defBody s__law_done) t ∧ t { nx := fun _ H' => Q .non H', rt := Q } (start n__law_done vs) H) : Fn1 P w K mg base (k + 1) "_law_done" ["_law_state", "_law_plain_here"] [] sp := by
  obtain ⟨fd, F⟩ := T.D__law_done
  exact ⟨_, fd, [], fd_ok F sc__law_done len hb, T.m__law_done, F.kp, F.bindsN (ps := ["_law_state", "_law_plain_here"]) (fun _ _ _ _ _ _ us hl => match us, hl with | [_, _], _ => rfl), .nil⟩
theorem Tx.E__law_deed {k : Nat} {sp : Sp} (len : ∀ vs H Q E, sp vs H Q E → vs.length = 2)
    (hb : ∀ (cdv : Value) (A : Around) (outer : List Env) (s : Shared) (H : Hp) (vs : List V) (Q : VK) (E : XK), Room k (A.deeper (envOfC "_law_deed" (defScope s__law_deed) s.heap.objs.size (He.ga K "_law_deed") cdv)) → sp vs H Q E →
      ∃ t, PSs (cxOf CX0 P w K mg base n__law_deed "_law_deed" (defScope s__law_deed) (He.ga K "_law_deed") cdv A outer s H E).nox (defBody s__law_deed) t ∧ t { nx := fun _ H' => Q .non H', rt := Q } (start n__law_deed vs) H) : Fn1 P w K mg base (k + 1) "_law_deed" ["_law_width", "_law_plain_here"] [] sp := by
  obtain ⟨fd, F⟩ := T.D__law_deed
  exact ⟨_, fd, [], fd_ok F sc__law_deed len hb, T.m__law_deed, F.kp, F.bindsN (ps := ["_law_width", "_law_plain_here"]) (fun _ _ _ _ _ _ us hl => match us, hl with | [_, _], _ => rfl), .nil⟩
theorem Tx.E__law_deeds {k : Nat} {sp : Sp} (len : ∀ vs H Q E, sp vs H Q E → vs.length = 2)
    (hb : ∀ (cdv : Value) (A : Around) (outer : List Env) (s : Shared) (H : Hp) (vs : List V) (Q : VK) (E : XK), Room k (A.deeper (envOfC "_law_deeds" (defScope s__law_deeds) s.heap.objs.size (He.ga K "_law_deeds") cdv)) → sp vs H Q E →
      ∃ t, PSs (cxOf CX0 P w K mg base n__law_deeds "_law_deeds" (defScope s__law_deeds) (He.ga K "_law_deeds") cdv A outer s H E).nox (defBody s__law_deeds) t ∧ t { nx := fun _ H' => Q .non H', rt := Q } (start n__law_deeds vs) H) : Fn1 P w K mg base (k + 1) "_law_deeds" ["_law_width", "_law_plains"] [] sp := by
  obtain ⟨fd, F⟩ := T.D__law_deeds
  exact ⟨_, fd, [], fd_ok F sc__law_deeds len hb, T.m__law_deeds, F.kp, F.bindsN (ps := ["_law_width", "_law_plains"]) (fun _ _ _ _ _ _ us hl => match us, hl with | [_, _], _ => rfl), .nil⟩
theorem Tx.E__law_rows_right {k : Nat} {sp : Sp} (len : ∀ vs H Q E, sp vs H Q E → vs.length = 3)
    (hb : ∀ (cdv : Value) (A : Around) (outer : List Env) (s : Shared) (H : Hp) (vs : List V) (Q : VK) (E : XK), Room k (A.deeper (envOfC "_law_rows_right" (defScope s__law_rows_right) s.heap.objs.size (He.ga K "_law_rows_right") cdv)) → sp vs H Q E →
      ∃ t, PSs (cxOf CX0 P w K mg base n__law_rows_right "_law_rows_right" (defScope s__law_rows_right) (He.ga K "_law_rows_right") cdv A outer s H E).nox (defBody s__law_rows_right) t ∧ t { nx := fun _ H' => Q .non H', rt := Q } (start n__law_rows_right vs) H) : Fn1 P w K mg base (k + 1) "_law_rows_right" ["_law_told", "_law_width", "_law_rows"] [] sp := by
  obtain ⟨fd, F⟩ := T.D__law_rows_right
  exact ⟨_, fd, [], fd_ok F sc__law_rows_right len hb, T.m__law_rows_right, F.kp, F.bindsN (ps := ["_law_told", "_law_width", "_law_rows"]) (fun _ _ _ _ _ _ us hl => match us, hl with | [_, _, _], _ => rfl), .nil⟩
theorem Tx.E__law_told_right {k : Nat} {sp : Sp} (len : ∀ vs H Q E, sp vs H Q E → vs.length = 3)
    (hb : ∀ (cdv : Value) (A : Around) (outer : List Env) (s : Shared) (H : Hp) (vs : List V) (Q : VK) (E : XK), Room k (A.deeper (envOfC "_law_told_right" (defScope s__law_told_right) s.heap.objs.size (He.ga K "_law_told_right") cdv)) → sp vs H Q E →
      ∃ t, PSs (cxOf CX0 P w K mg base n__law_told_right "_law_told_right" (defScope s__law_told_right) (He.ga K "_law_told_right") cdv A outer s H E).nox (defBody s__law_told_right) t ∧ t { nx := fun _ H' => Q .non H', rt := Q } (start n__law_told_right vs) H) : Fn1 P w K mg base (k + 1) "_law_told_right" ["_law_box", "_law_width", "_law_state"] [] sp := by
  obtain ⟨fd, F⟩ := T.D__law_told_right
  exact ⟨_, fd, [], fd_ok F sc__law_told_right len hb, T.m__law_told_right, F.kp, F.bindsN (ps := ["_law_box", "_law_width", "_law_state"]) (fun _ _ _ _ _ _ us hl => match us, hl with | [_, _, _], _ => rfl), .nil⟩
theorem Tx.E__law_drawn {k : Nat} {sp : Sp} (len : ∀ vs H Q E, sp vs H Q E → vs.length = 5)
    (hb : ∀ (cdv : Value) (A : Around) (outer : List Env) (s : Shared) (H : Hp) (vs : List V) (Q : VK) (E : XK), Room k (A.deeper (envOfC "_law_drawn" (defScope s__law_drawn) s.heap.objs.size (He.ga K "_law_drawn") cdv)) → sp vs H Q E →
      ∃ t, PSs (cxOf CX0 P w K mg base n__law_drawn "_law_drawn" (defScope s__law_drawn) (He.ga K "_law_drawn") cdv A outer s H E).nox (defBody s__law_drawn) t ∧ t { nx := fun _ H' => Q .non H', rt := Q } (start n__law_drawn vs) H) : Fn1 P w K mg base (k + 1) "_law_drawn" ["_law_pool_here", "_law_width", "_law_words_here", "_law_state", "_law_most"] [] sp := by
  obtain ⟨fd, F⟩ := T.D__law_drawn
  exact ⟨_, fd, [], fd_ok F sc__law_drawn len hb, T.m__law_drawn, F.kp, F.bindsN (ps := ["_law_pool_here", "_law_width", "_law_words_here", "_law_state", "_law_most"]) (fun _ _ _ _ _ _ us hl => match us, hl with | [_, _, _, _, _], _ => rfl), .nil⟩
theorem Tx.E__law_change {k : Nat} {sp : Sp} (len : ∀ vs H Q E, sp vs H Q E → vs.length = 5)
    (hb : ∀ (cdv : Value) (A : Around) (outer : List Env) (s : Shared) (H : Hp) (vs : List V) (Q : VK) (E : XK), Room k (A.deeper (envOfC "_law_change" (defScope s__law_change) s.heap.objs.size (He.ga K "_law_change") cdv)) → sp vs H Q E →
      ∃ t, PSs (cxOf CX0 P w K mg base n__law_change "_law_change" (defScope s__law_change) (He.ga K "_law_change") cdv A outer s H E).nox (defBody s__law_change) t ∧ t { nx := fun _ H' => Q .non H', rt := Q } (start n__law_change vs) H) : Fn1 P w K mg base (k + 1) "_law_change" ["_law_width", "_law_first", "_law_path_here", "_law_at", "_law_word"] [] sp := by
  obtain ⟨fd, F⟩ := T.D__law_change
  exact ⟨_, fd, [], fd_ok F sc__law_change len hb, T.m__law_change, F.kp, F.bindsN (ps := ["_law_width", "_law_first", "_law_path_here", "_law_at", "_law_word"]) (fun _ _ _ _ _ _ us hl => match us, hl with | [_, _, _, _, _], _ => rfl), .nil⟩
theorem Tx.E__law_changed {k : Nat} {sp : Sp} (len : ∀ vs H Q E, sp vs H Q E → vs.length = 3)
    (hb : ∀ (cdv : Value) (A : Around) (outer : List Env) (s : Shared) (H : Hp) (vs : List V) (Q : VK) (E : XK), Room k (A.deeper (envOfC "_law_changed" (defScope s__law_changed) s.heap.objs.size (He.ga K "_law_changed") cdv)) → sp vs H Q E →
      ∃ t, PSs (cxOf CX0 P w K mg base n__law_changed "_law_changed" (defScope s__law_changed) (He.ga K "_law_changed") cdv A outer s H E).nox (defBody s__law_changed) t ∧ t { nx := fun _ H' => Q .non H', rt := Q } (start n__law_changed vs) H) : Fn1 P w K mg base (k + 1) "_law_changed" ["_law_width", "_law_held_here", "_law_change_here"] [] sp := by
  obtain ⟨fd, F⟩ := T.D__law_changed
  exact ⟨_, fd, [], fd_ok F sc__law_changed len hb, T.m__law_changed, F.kp, F.bindsN (ps := ["_law_width", "_law_held_here", "_law_change_here"]) (fun _ _ _ _ _ _ us hl => match us, hl with | [_, _, _], _ => rfl), .nil⟩
theorem Tx.E__law_runs_right {k : Nat} {sp : Sp} (len : ∀ vs H Q E, sp vs H Q E → vs.length = 3)
    (hb : ∀ (cdv : Value) (A : Around) (outer : List Env) (s : Shared) (H : Hp) (vs : List V) (Q : VK) (E : XK), Room k (A.deeper (envOfC "_law_runs_right" (defScope s__law_runs_right) s.heap.objs.size (He.ga K "_law_runs_right") cdv)) → sp vs H Q E →
      ∃ t, PSs (cxOf CX0 P w K mg base n__law_runs_right "_law_runs_right" (defScope s__law_runs_right) (He.ga K "_law_runs_right") cdv A outer s H E).nox (defBody s__law_runs_right) t ∧ t { nx := fun _ H' => Q .non H', rt := Q } (start n__law_runs_right vs) H) : Fn1 P w K mg base (k + 1) "_law_runs_right" ["_law_pool_here", "_law_width", "_law_words_here"] [] sp := by
  obtain ⟨fd, F⟩ := T.D__law_runs_right
  exact ⟨_, fd, [], fd_ok F sc__law_runs_right len hb, T.m__law_runs_right, F.kp, F.bindsN (ps := ["_law_pool_here", "_law_width", "_law_words_here"]) (fun _ _ _ _ _ _ us hl => match us, hl with | [_, _, _], _ => rfl), .nil⟩
theorem Tx.E__law_merges_right {k : Nat} {sp : Sp} (len : ∀ vs H Q E, sp vs H Q E → vs.length = 3)
    (hb : ∀ (cdv : Value) (A : Around) (outer : List Env) (s : Shared) (H : Hp) (vs : List V) (Q : VK) (E : XK), Room k (A.deeper (envOfC "_law_merges_right" (defScope s__law_merges_right) s.heap.objs.size (He.ga K "_law_merges_right") cdv)) → sp vs H Q E →
      ∃ t, PSs (cxOf CX0 P w K mg base n__law_merges_right "_law_merges_right" (defScope s__law_merges_right) (He.ga K "_law_merges_right") cdv A outer s H E).nox (defBody s__law_merges_right) t ∧ t { nx := fun _ H' => Q .non H', rt := Q } (start n__law_merges_right vs) H) : Fn1 P w K mg base (k + 1) "_law_merges_right" ["_law_pool_here", "_law_width", "_law_words_here"] [] sp := by
  obtain ⟨fd, F⟩ := T.D__law_merges_right
  exact ⟨_, fd, [], fd_ok F sc__law_merges_right len hb, T.m__law_merges_right, F.kp, F.bindsN (ps := ["_law_pool_here", "_law_width", "_law_words_here"]) (fun _ _ _ _ _ _ us hl => match us, hl with | [_, _, _], _ => rfl), .nil⟩
theorem Tx.E__law_right {k : Nat} {sp : Sp} (len : ∀ vs H Q E, sp vs H Q E → vs.length = 1)
    (hb : ∀ (cdv : Value) (A : Around) (outer : List Env) (s : Shared) (H : Hp) (vs : List V) (Q : VK) (E : XK), Room k (A.deeper (envOfC "_law_right" (defScope s__law_right) s.heap.objs.size (He.ga K "_law_right") cdv)) → sp vs H Q E →
      ∃ t, PSs (cxOf CX0 P w K mg base n__law_right "_law_right" (defScope s__law_right) (He.ga K "_law_right") cdv A outer s H E).nox (defBody s__law_right) t ∧ t { nx := fun _ H' => Q .non H', rt := Q } (start n__law_right vs) H) : Fn1 P w K mg base (k + 1) "_law_right" ["_law_pool_here"] [] sp := by
  obtain ⟨fd, F⟩ := T.D__law_right
  exact ⟨_, fd, [], fd_ok F sc__law_right len hb, T.m__law_right, F.kp, F.bindsN (ps := ["_law_pool_here"]) (fun _ _ _ _ _ _ us hl => match us, hl with | [_], _ => rfl), .nil⟩
theorem Tx.E_law {k : Nat} {sp : Sp} (len : ∀ vs H Q E, sp vs H Q E → vs.length = 1)
    (hb : ∀ (cdv : Value) (A : Around) (outer : List Env) (s : Shared) (H : Hp) (vs : List V) (Q : VK) (E : XK), Room k (A.deeper (envOfC "law" (defScope s_law) s.heap.objs.size (He.ga K "law") cdv)) → sp vs H Q E →
      ∃ t, PSs (cxOf CX0 P w K mg base n_law "law" (defScope s_law) (He.ga K "law") cdv A outer s H E).nox (defBody s_law) t ∧ t { nx := fun _ H' => Q .non H', rt := Q } (start n_law vs) H) : Fn1 P w K mg base (k + 1) "law" ["_law_script"] [] sp := by
  obtain ⟨fd, F⟩ := T.D_law
  exact ⟨_, fd, [], fd_ok F sc_law len hb, T.m_law, F.kp, F.bindsN (ps := ["_law_script"]) (fun _ _ _ _ _ _ us hl => match us, hl with | [_], _ => rfl), .nil⟩
end
end Kx
set_option Elab.async false
set_option linter.all false
set_option maxRecDepth 100000
set_option maxHeartbeats 4000000
namespace Kx
open PySem PySem.Spec PyProof.Rows L2
theorem bt_isi : bootBuiltins "isinstance" = some (.builtin "isinstance") := by decide +kernel
theorem bt_int : bootBuiltins "int" = some (.type "int") := by decide +kernel
theorem bt_bool : bootBuiltins "bool" = some (.type "bool") := by decide +kernel
theorem bt_str : bootBuiltins "str" = some (.type "str") := by decide +kernel
theorem bt_tuple : bootBuiltins "tuple" = some (.type "tuple") := by decide +kernel
theorem bt_list : bootBuiltins "list" = some (.type "list") := by decide +kernel
theorem bt_dict : bootBuiltins "dict" = some (.type "dict") := by decide +kernel
theorem bt_len : bootBuiltins "len" = some (.builtin "len") := by decide +kernel
theorem bt_all : bootBuiltins "all" = some (.builtin "all") := by decide +kernel
theorem bt_min : bootBuiltins "min" = some (.builtin "min") := by decide +kernel
theorem bt_max : bootBuiltins "max" = some (.builtin "max") := by decide +kernel
theorem bt_abs : bootBuiltins "abs" = some (.builtin "abs") := by decide +kernel
theorem bt_sorted : bootBuiltins "sorted" = some (.builtin "sorted") := by decide +kernel
theorem bt_repr : bootBuiltins "repr" = some (.builtin "repr") := by decide +kernel
theorem bt_divmod : bootBuiltins "divmod" = some (.builtin "divmod") := by decide +kernel
/-- a name: one to eight small letters -/
def IsNm (x : Str) : Prop := 0 < x.length ∧ x.length < 9 ∧ ∀ c ∈ x.cps.toList, c ∈ (Str.ofString "abcdefghijklmnopqrstuvwxyz").cps.toList
abbrev Tab := List (Str × Int)
/-- a pair of a text and a number -/
def PrV (K : PySem.W.Frag) (H : Hp) (v : V) (p : Str × Int) : Prop := ∃ t, v = .ref t ∧ SqT K H t [.str p.1, .int p.2]
theorem stb_pr {K : PySem.W.Frag} {C : Addr} : Stb C (PrV K) := ⟨fun s ⟨t, e, h⟩ => ⟨t, e, st_tv s h⟩⟩
theorem bl_t {b : Bool} {Q : VK} {H : Hp} (h : b = true) (k : Q (.bl true) H) : Q (.bl b) H := h ▸ k
theorem bl_f {b : Bool} {Q : VK} {H : Hp} (h : b = false) (k : Q (.bl false) H) : Q (.bl b) H := h ▸ k
section
variable {P : Program} {w : World} {K : PySem.W.Frag} {mg : Str → Option Value} {base : Heap}
def spWhole : Sp := fun vs H Q _ => ∃ i : Int, vs = [.int i] ∧ Q (.bl true) H
theorem ok_is_whole (T : Tx w K mg) : Fn1 P w K mg base 1 "is_whole" ["thing"] [] spWhole := by
  refine T.E_is_whole (fun vs H Q E h => ?_) (fun cdv A outer s H vs Q E hr h => ?_)
  · obtain ⟨_, rfl, _⟩ := h
    rfl
  obtain ⟨i, rfl, k⟩ := h
  refine ⟨_, pss_one (ps_ret (pe_and (pe_callB call_isi rfl T.b_isinstance bt_isi (pa_cons (pv 0) (pa_cons (pe_bltn (v := .ty "int") rfl T.b_int bt_int rfl) pa_nil)))
    (pe_one (pe_not (pe_callB call_isi rfl T.b_isinstance bt_isi (pa_cons (pv 0) (pa_cons (pe_bltn (v := .ty "bool") rfl T.b_bool bt_bool rfl) pa_nil))))))), ?_⟩
  refine ⟨_, rfl, _, _, _, _, true, rfl, .ty "int", .base (.int i), kit_ty (by decide +kernel), true, rfl, iteT ?_⟩
  exact ⟨_, rfl, _, _, _, _, false, rfl, .ty "bool", .base (.int i), kit_ty (by decide +kernel), false, rfl, k⟩
def spFrom : Sp := fun vs H Q _ => ∃ i j : Int, vs = [.int i, .int j] ∧ Q (.bl (decide (j ≤ i))) H
theorem ok_is_from (T : Tx w K mg) : Fn1 P w K mg base 2 "is_from" ["thing", "least"] [] spFrom := by
  refine T.E_is_from (fun vs H Q E h => ?_) (fun cdv A outer s H vs Q E hr h => ?_)
  · obtain ⟨_, _, rfl, _⟩ := h
    rfl
  obtain ⟨i, j, rfl, k⟩ := h
  refine ⟨_, pss_one (ps_ret (pe_and (pe_f (ok_is_whole T) hr (pa_cons (pv 0) pa_nil)) (pe_one (pe_cmpR op_ge (pv 0) (pv 1) (nomark _))))), ?_⟩
  refine ⟨_, rfl, i, rfl, true, rfl, iteT ⟨_, rfl, _, rfl, _, _, rfl, rfl, k⟩⟩
def spBetween : Sp := fun vs H Q _ => ∃ i a b : Int, vs = [.int i, .int a, .int b] ∧ a ≤ i ∧ i ≤ b ∧ Q (.bl true) H
theorem ok_is_between (T : Tx w K mg) : Fn1 P w K mg base 2 "is_between" ["thing", "least", "most"] [] spBetween := by
  refine T.E_is_between (fun vs H Q E h => ?_) (fun cdv A outer s H vs Q E hr h => ?_)
  · obtain ⟨_, _, _, rfl, _⟩ := h
    rfl
  obtain ⟨i, a, b, rfl, h1, h2, k⟩ := h
  refine ⟨_, pss_one (ps_ret (pe_and (pe_f (ok_is_whole T) hr (pa_cons (pv 0) pa_nil)) (pe_one (pe_chain op_le op_le (pv 1) (pv 0) (pv 2))))), ?_⟩
  refine ⟨_, rfl, i, rfl, true, rfl, iteT ⟨_, rfl, _, rfl, _, _, rfl, rfl, _, rfl, ?_⟩⟩
  rw [decide_eq_true h1]
  refine iteT ⟨_, rfl, _, _, rfl, rfl, ?_⟩
  exact bl_t (decide_eq_true h2) k
def spCap : Sp := fun vs H Q _ => ∃ i : Int, vs = [.int i] ∧ 1 ≤ i ∧ i ≤ 8 ∧ Q (.bl true) H
theorem ok_is_capacity (T : Tx w K mg) : Fn1 P w K mg base 3 "is_capacity" ["thing"] [] spCap := by
  refine T.E_is_capacity (fun vs H Q E h => ?_) (fun cdv A outer s H vs Q E hr h => ?_)
  · obtain ⟨_, rfl, _⟩ := h
    rfl
  obtain ⟨i, rfl, h1, h2, k⟩ := h
  obtain ⟨t, hm⟩ := T.i_MAX_CAPACITY
  refine ⟨_, pss_one (ps_ret (pe_f (ok_is_between T) hr (pa_cons (pv 0) (pa_cons pe_int (pa_cons (pe_glob (v := .int 8) rfl hm ⟨_, rfl⟩) pa_nil))))), ?_⟩
  exact ⟨_, rfl, i, 1, 8, rfl, h1, h2, k⟩
def spName : Sp := fun vs H Q _ => ∃ x : Str, vs = [.str x] ∧ IsNm x ∧ ∀ H', Same H H' → Q (.bl true) H'
theorem ok_is_name (T : Tx w K mg) : Fn1 P w K mg base 1 "is_name" ["thing"] [] spName := by
  refine T.E_is_name (fun vs H Q E h => ?_) (fun cdv A outer s H vs Q E hr h => ?_)
  · obtain ⟨_, rfl, _⟩ := h
    rfl
  obtain ⟨x, rfl, ⟨h1, h2, h3⟩, k⟩ := h
  obtain ⟨t, hm⟩ := T.s_LETTERS
  refine ⟨_, pss_one (ps_ret (pe_and (pe_callB call_isi rfl T.b_isinstance bt_isi (pa_cons (pv 0) (pa_cons (pe_bltn (v := .ty "str") rfl T.b_str bt_str rfl) pa_nil)))
    (pe_and (pe_chain op_lt op_lt pe_int (pe_callB call_len_str rfl T.b_len bt_len (pa_cons (pv 0) pa_nil)) pe_int)
    (pe_one (pe_callB (cr_all rfl) rfl T.b_all bt_all (pa_cons (pe_lc (own := [("letter", 1)]) (g := gName 1) (tt := tYes) rfl sc_is_name.nd (pi_str (pv 0)) (blkOk_by (N := n_is_name) (sc := defScope s_is_name) (by decide +kernel))
      (fun _ _ _ _ _ => pg_name (i := 1) sc_is_name.nd rfl (Or.inl rfl)) (fun _ _ _ _ _ => pts_nil) (fun _ _ _ _ _ => pe_cmpR op_in_sign (pv 1) (pe_glob (v := .str "abcdefghijklmnopqrstuvwxyz") rfl hm ⟨_, rfl⟩) rfl)) pa_nil)))))), ?_⟩
  have hx : x.length ≤ sizeLine := Nat.le_trans (Nat.le_of_lt h2) (by decide)
  refine ⟨_, rfl, _, _, _, _, true, rfl, .ty "str", .base (.str x), kit_ty (by decide +kernel), true, rfl, iteT ⟨_, rfl, x, rfl, hx, _, _, rfl, rfl, _, rfl, ?_⟩⟩
  rw [decide_eq_true (show (0 : Int) < x.length by omega)]
  refine iteT ⟨_, _, rfl, rfl, true, ?_, iteT ⟨_, rfl, x, rfl, fun D hD => ?_⟩⟩
  · exact congrArg V.bl (decide_eq_true (show (x.length : Int) < 9 by omega))
  refine lc_M (C := 0) walk_str x.cps.toList (fun _ => true) (fun _ v b => v = .bl b) ⟨fun _ h => h⟩ (by simp) (by have : x.cps.size < 9 := h2; omega) hD (fun _ _ => trivial) (fun i c v H1 H2 F1 hi s y f1 => ?_) fun ys H1 s hy p => ?_
  · obtain ⟨rfl, c', hc, rfl⟩ := y
    have e : c' = c := by
      rw [← Array.getElem?_toList, hi] at hc
      exact (Option.some.inj hc).symm
    subst e
    refine ⟨rfl, _, rfl, _, _, rfl, rfl, ?_⟩
    rw [decide_eq_true (h3 c' (List.mem_of_getElem? hi))]
    exact f1 _ _ (Same.refl _) rfl
  · refine ⟨D, _, rfl, SqL.of (pd_eq p ▸ hy), ?_⟩
    exact bl_t (by simp) (k _ s)
def spRun : Sp := fun vs H Q _ => ∃ (v : V) (p : Str × Int), vs = [v] ∧ PrV K H v p ∧ IsNm p.1 ∧ 1 ≤ p.2 ∧ ∀ H', Same H H' → Q (.bl true) H'
theorem ok_is_run (T : Tx w K mg) : Fn1 P w K mg base 3 "is_run" ["thing"] [] (spRun (K := K)) := by
  refine T.E_is_run (fun vs H Q E h => ?_) (fun cdv A outer s H vs Q E hr h => ?_)
  · obtain ⟨_, _, rfl, _⟩ := h
    rfl
  obtain ⟨v, p, rfl, ⟨t, rfl, ht⟩, h1, h2, k⟩ := h
  refine ⟨_, pss_one (ps_ret (pe_and (pe_callB call_isi rfl T.b_isinstance bt_isi (pa_cons (pv 0) (pa_cons (pe_bltn (v := .ty "tuple") rfl T.b_tuple bt_tuple rfl) pa_nil)))
    (pe_and (pe_cmpR op_eq (pe_callB call_len_seq rfl T.b_len bt_len (pa_cons (pv 0) pa_nil)) pe_int (nomark _))
    (pe_and (pe_f (ok_is_name T) (hr.mono (by decide)) (pa_cons (pe_ix ix_tup (pv 0) pe_int (fun _ _ => rfl)) pa_nil))
    (pe_one (pe_f (ok_is_from T) hr (pa_cons (pe_ix ix_tup (pv 0) pe_int (fun _ _ => rfl)) (pa_cons pe_int pa_nil)))))))), ?_⟩
  refine ⟨_, rfl, _, _, _, _, true, rfl, .ty "tuple", ty_tup ht, kit_ty (by decide +kernel), true, rfl, iteT ⟨_, rfl, t, _, rfl, .inr ht, rfl, _, rfl, iteT ?_⟩⟩
  refine ⟨_, rfl, t, _, _, _, rfl, rfl, ht, atI_nat (j := 0) rfl, p.1, rfl, h1, fun H1 s1 => ⟨true, rfl, iteT ?_⟩⟩
  refine ⟨_, rfl, t, _, _, _, rfl, rfl, st_sm s1 ht, atI_nat (j := 1) rfl, p.2, 1, rfl, ?_⟩
  exact bl_t (decide_eq_true h2) (k H1 s1)
end
end Kx
set_option Elab.async false
set_option linter.all false
set_option maxRecDepth 100000
set_option maxHeartbeats 4000000
namespace Kx
open PySem PySem.Spec PyProof.Rows L2
/-! ### names in order -/
def leN (x y : Str) : Bool := !decide (y.cps.toList < x.cps.toList)
theorem leN_iff {x y : Str} : leN x y = true ↔ x.cps.toList ≤ y.cps.toList := by
  unfold leN
  rw [Bool.not_eq_true', decide_eq_false_iff_not]
  exact Iff.rfl
theorem leN_trans {x y z : Str} (h : leN x y = true) (k : leN y z = true) : leN x z = true := leN_iff.mpr (List.le_trans (leN_iff.mp h) (leN_iff.mp k))
theorem leN_total {x y : Str} : leN x y = true ∨ leN y x = true := by
  rw [leN_iff, leN_iff]
  exact List.le_total _ _
theorem str_ext {x y : Str} (h : x.cps.toList = y.cps.toList) : x = y := by
  cases x
  cases y
  exact congrArg _ (Array.toList_inj.mp h)
theorem leN_anti {x y : Str} (h : leN x y = true) (k : leN y x = true) : x = y := str_ext (List.le_antisymm (leN_iff.mp h) (leN_iff.mp k))
def srtN (l : List Str) : List Str := l.mergeSort leN
theorem srtN_perm (l : List Str) : (srtN l).Perm l := List.mergeSort_perm l leN
theorem srtN_pw (l : List Str) : (srtN l).Pairwise fun a b => leN a b = true := List.pairwise_mergeSort (le := leN) (fun a b c => leN_trans) (fun a b => by
  rcases leN_total (x := a) (y := b) with h | h <;> simp [h]) l
theorem pw_eq : ∀ {l m : List Str}, l.Pairwise (fun a b => leN a b = true) → m.Pairwise (fun a b => leN a b = true) → l.Perm m → l = m
  | [], m, _, _, p => (List.nil_perm.mp p).symm
  | a :: l, [], _, _, p => absurd p.length_eq (by simp)
  | a :: l, b :: m, h1, h2, p => by
    have e : a = b := by
      rw [List.pairwise_cons] at h1 h2
      have ma : a ∈ b :: m := p.mem_iff.mp (List.mem_cons_self ..)
      have mb : b ∈ a :: l := p.mem_iff.mpr (List.mem_cons_self ..)
      rcases List.mem_cons.mp ma with q | q
      · exact q
      · rcases List.mem_cons.mp mb with r | r
        · exact r.symm
        · exact leN_anti (h1.1 b r) (h2.1 a q)
    subst e
    rw [pw_eq (List.Pairwise.of_cons h1) (List.Pairwise.of_cons h2) ((List.perm_cons a).mp p)]
theorem srtN_eq {l m : List Str} (p : l.Perm m) : srtN l = srtN m := pw_eq (srtN_pw l) (srtN_pw m) ((srtN_perm l).trans (p.trans (srtN_perm m).symm))
theorem srtN_id {l : List Str} (h : l.Pairwise fun a b => leN a b = true) : srtN l = l := pw_eq (srtN_pw l) h (srtN_perm l)
theorem rise_pw : ∀ {l : List Str} {p : Str}, risingS p l = true → (p :: l).Pairwise fun a b => leN a b = true
  | [], p, _ => by simp
  | x :: r, p, h => by
    unfold risingS at h
    rw [Bool.and_eq_true] at h
    have ih := rise_pw h.2
    have e : leN p x = true := by
      unfold leN
      rw [← h.1, PyProof.Rows.ltCps_eq]
    rw [List.pairwise_cons]
    refine ⟨fun b hb => ?_, ih⟩
    rcases List.mem_cons.mp hb with q | q
    · exact q ▸ e
    · exact leN_trans e ((List.pairwise_cons.mp ih).1 b q)
theorem sortedS_pw {l : List Str} (h : sortedS l = true) : l.Pairwise fun a b => leN a b = true := by
  cases l with
  | nil => simp
  | cons x r => exact rise_pw h
theorem sortedS_srt {l m : List Str} (p : l.Perm m) (h : sortedS l = true) : l = srtN m := pw_eq (sortedS_pw h) (srtN_pw m) (p.trans (srtN_perm m).symm)
/-! ### tables: names with numbers -/
abbrev nms (t : Tab) : List Str := t.map (·.1)
def lk (t : Tab) (x : Str) : Option Int := (t.find? fun p => decide (p.1 = x)).map (·.2)
def val (t : Tab) (x : Str) : Int := (lk t x).getD 0
def put (t : Tab) (x : Str) (n : Int) : Tab := if (t.any fun p => decide (p.1 = x)) = true then t.map (fun p => if p.1 = x then (p.1, n) else p) else t ++ [(x, n)]
def add (t : Tab) (x : Str) (n : Int) : Tab := put t x (val t x + n)
/-- sums of what comes twice -/
def tab (ps : Tab) : Tab := ps.foldl (fun t p => add t p.1 p.2) []
def held (ps : Tab) : Tab := ps.foldl (fun t p => put t p.1 p.2) []
def flat (t : Tab) : Tab := (srtN (nms t)).map fun x => (x, val t x)
def flatP (t : Tab) : Tab := ((srtN (nms t)).filter fun x => decide (0 < val t x)).map fun x => (x, val t x)
def low (t : Tab) (s : Int) : Tab := (t.filter fun p => decide (s < p.2)).map fun p => (p.1, p.2 - s)
def mnL : List Int → Int
  | [] => 0
  | [a] => a
  | a :: b :: r => min a (mnL (b :: r))
def mn (t : Tab) : Int := mnL (t.map (·.2))
/-- n of x come, k places: the table behind, how often all was lowered -/
def arr (k : Nat) (t : Tab) (x : Str) (n : Int) : Tab × Int :=
  if 0 < n ∧ x ∉ nms t ∧ t.length = k then (if 0 < n - min n (mn t) then add (low t (min n (mn t))) x (n - min n (mn t)) else low t (min n (mn t)), min n (mn t))
  else (if 0 < n then add t x n else t, 0)
def play (k : Nat) (t : Tab) (rs : Tab) : Tab × Int := rs.foldl (fun a r => ((arr k a.1 r.1 r.2).1, a.2 + (arr k a.1 r.1 r.2).2)) (t, 0)
/-- the dict of a table -/
def kd (t : Tab) : List (Key × V) := t.map fun p => (.inr p.1, .int p.2)
theorem kd_val (t : Tab) (x : Str) : valV (kd t) (.inr x) = (lk t x).map V.int := by
  unfold valV lk kd
  induction t with
  | nil => rfl
  | cons p r ih =>
    rw [List.map_cons, List.find?_cons, List.find?_cons]
    by_cases h : p.1 = x
    · simp [h]
    · simpa [h] using ih
theorem kd_put (t : Tab) (x : Str) (n : Int) : putK (kd t) (.inr x) (.int n) = kd (put t x n) := by
  unfold putK put kd
  rw [List.any_map]
  have e : (t.any ((fun kv : Key × V => decide (kv.1 = Sum.inr x)) ∘ fun p => (Sum.inr p.1, V.int p.2))) = t.any fun p => decide (p.1 = x) := by
    congr 1
    funext p
    simp
  rw [e]
  split
  · rw [List.map_map, List.map_map]
    refine List.map_congr_left fun p _ => ?_
    by_cases h : p.1 = x <;> simp [h]
  · simp
theorem kd_len (t : Tab) : (kd t).length = t.length := List.length_map _
theorem kd_keys (t : Tab) : (kd t).map (·.1) = (nms t).map Sum.inr := by
  unfold kd
  simp
theorem put_len (t : Tab) (x : Str) (n : Int) : (put t x n).length ≤ t.length + 1 := by
  unfold put
  split
  · rw [List.length_map]; omega
  · simp
theorem lk_some {t : Tab} {x : Str} : (lk t x).isSome = true ↔ x ∈ nms t := by
  unfold lk
  rw [Option.isSome_map, List.find?_isSome]
  simp
theorem lk_none {t : Tab} {x : Str} : lk t x = none ↔ x ∉ nms t := by
  rw [← lk_some]
  cases lk t x <;> simp
theorem lk_val {t : Tab} {x : Str} (h : x ∈ nms t) : lk t x = some (val t x) := by
  have := lk_some.mpr h
  unfold val
  cases e : lk t x with
  | none => rw [e] at this; cases this
  | some v => rfl
theorem lk_mem {t : Tab} (nd : (nms t).Nodup) {p : Str × Int} (h : p ∈ t) : lk t p.1 = some p.2 := by
  induction t with
  | nil => cases h
  | cons q r ih =>
    rw [nms, List.map_cons, List.nodup_cons] at nd
    unfold lk
    rw [List.find?_cons]
    by_cases e : q.1 = p.1
    · rcases List.mem_cons.mp h with z | z
      · simp [z]
      · exact absurd (List.mem_map_of_mem (f := (·.1)) z) (e ▸ nd.1)
    · have hp : p ∈ r := by
        rcases List.mem_cons.mp h with z | z
        · exact absurd (z ▸ rfl) e
        · exact z
      have := ih nd.2 hp
      unfold lk at this
      simpa [e] using this
theorem val_mem {t : Tab} (nd : (nms t).Nodup) {p : Str × Int} (h : p ∈ t) : val t p.1 = p.2 := by
  unfold val
  rw [lk_mem nd h]
  rfl
theorem put_fresh {t : Tab} {x : Str} {n : Int} (h : x ∉ nms t) : put t x n = t ++ [(x, n)] := by
  unfold put
  rw [if_neg]
  intro e
  obtain ⟨p, h1, h2⟩ := List.any_eq_true.mp e
  exact h (of_decide_eq_true h2 ▸ List.mem_map_of_mem (f := (·.1)) h1)
theorem val_fresh {t : Tab} {x : Str} (h : x ∉ nms t) : val t x = 0 := by
  unfold val
  rw [lk_none.mpr h]
  rfl
end Kx
set_option Elab.async false
set_option linter.all false
set_option maxRecDepth 100000
set_option maxHeartbeats 4000000
namespace Kx
open PySem PySem.Spec PyProof.Rows L2
/-! ### a starred target over a tuple -/
section
variable {prog : Program} {w : World} {A : Around} {E : Value → Shared → Prop} {s : Shared}
/-- a tuple's iterator from its k-th item on -/
theorem ws_from (hh : A.handled = none) (I t : Addr) (hne : t ≠ I) (its : Array Value) (k : Nat) (hk : k ≤ its.size) :
    WalksS prog w A I [I, t] [I] (fun a b => b = a) (its.size - k) (fun i v => its[k + i]? = some v) (fun i s => s.heap.IsTupleIter I t (k + i) ∧ s.heap.IsTuple t its) := by
  have W := Walks.tuple (prog := prog) (w := w) hh I t hne its
  refine ⟨W.sub, fun _ => rfl, fun _ _ _ x y => y.trans x, fun i s h' tk st _ kp => W.frame (k + i) _ _ st kp, fun i s Q E' hi st q => ?_, fun s Q E' st q => ?_, fun i s Q E' st q => W.self (k + i) s Q E' st q⟩
  · have hl : k + i < its.size := by omega
    exact wpAny_pyNext_tuple_item st.1 st.2 (x := its[k + i]) (by simp [hl]) fun h' hit sb => q _ { s with heap := h' } (by simp [hl]) ⟨hit, st.2.extBut sb.extBut hne⟩ ⟨fun b o hb e => sb.extBut b o (fun z => hb (by simp [z])) e, rfl, rfl, rfl, Nat.le_refl _⟩
  · have e : k + (its.size - k) = its.size := by omega
    rw [e] at st
    exact wpAny_pyNext_tuple_end hh st.1 st.2 (by simp) fun h' eb => q { s with heap := h' } ⟨fun b o hb e => eb b o (fun z => hb (by simp [z])) e, rfl, rfl, rfl, Nat.le_refl _⟩
/-- the items of a tuple for targets of which the k-th is starred, n in all -/
theorem un_star {t : Addr} {its : Array Value} {k n : Nat} {Q : List Value → Shared → Prop} (hh : A.handled = none) (ht : IsTup s.heap t its) (hk : k ≤ its.size) (hn : k + (n - 1 - k) ≤ its.size) (hz : its.size ≤ sizeLine)
    (hQ : ∀ (p : Addr) (h' : Heap) (tk : Tok), (∀ b o, s.heap.get? b = some o → h'.get? b = some o ∧ b ≠ p) → h'.get? p = some { cls := .type "list", data := .seq ((its.toList.drop k).take (its.size - k - (n - 1 - k))).toArray } →
      Q (its.toList.take k ++ [.ref p] ++ (its.toList.drop k).drop (its.size - k - (n - 1 - k))) { s with heap := h', toks := tk }) :
    wpAny (model prog w) A (unpackItems (.ref t) n (some k)) Q E s := by
  have hlt : t ≠ s.heap.objs.size := by
    obtain ⟨o, ho, _⟩ := ht
    exact Nat.ne_of_lt (Heap.lt_size ho)
  unfold unpackItems notIterableAtAll
  refine wpAny_bind (wpAny_bind (wpAny_specialOf ht.typeIs PyProof.Rows.slot_tuple_iter.lookup (wpAny_pure ?_)))
  simp only [Bool.false_eq_true, if_false]
  refine wpAny_bind (wpAny_holding (iter_tuple ht ?_))
  refine wpAny_bind (wpAny_holding (draw_tuple hlt k 0 _ _ ⟨_, Heap.get?_push_size _ rfl, rfl, rfl⟩ (ht.push _) (by omega) fun h1 hit1 sb1 => ?_))
  have hfirst : List.take k (List.drop 0 its.toList) = its.toList.take k := by rw [List.drop_zero]
  rw [hfirst]
  have hlen : (its.toList.take k).length = k := by rw [List.length_take, Array.length_toList]; omega
  rw [if_neg (by rw [hlen]; exact Nat.lt_irrefl _)]
  have ht1 : IsTup h1 t its := (ht.push _).extBut sb1.extBut hlt
  rw [Nat.zero_add] at hit1
  have hsz : s.heap.objs.size < h1.objs.size := by
    obtain ⟨o, ho, _⟩ := hit1
    exact Heap.lt_size ho
  refine wpAny_bind (wpAny_holding (wpAny_collect_iter (T := "tuple_iterator") (n := its.size - k) (.inr (.inr (.inr rfl))) (ws_from (A := A.in1) (show A.in1.handled = none from hh) s.heap.objs.size t hlt its k hk) (fun i s' st => st.1.typeIs) ⟨by rw [Nat.add_zero]; exact hit1, ht1⟩ (fun b hb => ?_) (by simp) (fun s2 acc mv io => ?_) (by omega)))
  · rcases List.mem_cons.mp hb with e | e
    · rw [e]
      exact hsz
    · rw [List.mem_singleton.mp e]
      obtain ⟨o, ho, _⟩ := ht1
      exact Heap.lt_size ho
  have hacc : acc.toList = its.toList.drop k := by
    apply List.ext_getElem?
    intro i
    rw [List.getElem?_drop, Array.getElem?_toList, Array.getElem?_toList]
    by_cases hi : i < its.size - k
    · have hi2 : i < acc.size := by rw [io.1]; exact hi
      rw [io.2 i acc[i] (by simp [hi2])]
      simp [hi2]
    · have h1 : acc[i]? = none := by simp; rw [io.1]; omega
      have h2 : its[k + i]? = none := by simp; omega
      rw [h1, h2]
  rw [hacc]
  have hrest : (its.toList.drop k).length = its.size - k := by simp
  rw [if_neg (by rw [hrest]; omega), hrest]
  obtain ⟨h2, g2, d2, t2, o2⟩ := s2
  obtain ⟨m1, rfl, rfl, rfl, m5⟩ := mv
  refine wpAny_bind (wpAny_newObj_type ?_ ?_)
  · have key : ∀ b o, s.heap.get? b = some o → h2.get? b = some o := fun b o e => by
      have hb : b ≠ s.heap.objs.size := Nat.ne_of_lt (Heap.lt_size e)
      exact m1 b o (fun z => hb (List.mem_singleton.mp z)) (sb1.extBut b o hb (Heap.get?_push_of_some _ e))
    exact wpAny_pure (hQ h2.objs.size _ t2 (fun b o e => ⟨Heap.get?_push_of_some _ (key b o e), Nat.ne_of_lt (Heap.lt_size (key b o e))⟩) (Heap.get?_push_size _ rfl))
  · show List.length _ ≤ sizeLine
    exact Nat.le_trans (List.length_take_le _ _) (Nat.le_trans (show its.size - k - (n - 1 - k) ≤ its.size by omega) hz)
end
section
variable {X : Cx} {pins : List (Addr × Obj)} {σ : L2.St} {H : Hp} {s : Shared} {h' : Heap} {t' : Nat} {a : Addr} {o : HO}
theorem obj_there {P : Program} {w : World} {h : Heap} {b : Addr} {u : HO} (x : ObjOk P w H h b u) : ∃ ob, h.get? b = some ob := by
  cases u with
  | lst xs => obtain ⟨_, _, _, _, e⟩ := x; exact ⟨_, e⟩
  | tup xs => obtain ⟨_, _, _, _, e, _⟩ := x; exact ⟨_, e⟩
  | dK kvs => obtain ⟨_, _, _, _, _, _, _, e, _⟩ := x; exact ⟨_, e⟩
  | dT kvs => obtain ⟨_, _, _, _, _, _, _, e, _⟩ := x; exact ⟨_, e⟩
  | set S n => obtain ⟨_, _, _, _, e, _⟩ := x; exact ⟨_, e⟩
  | ins C dx fs => obtain ⟨_, _, _, e, _⟩ := x; exact ⟨_, e⟩
  | own y => exact x
  | xd fs => obtain ⟨_, ⟨_, _, _, e, _⟩, _⟩ := x; exact ⟨_, e⟩
  | rng lo hi => obtain ⟨_, _, _, e⟩ := x; exact ⟨_, e⟩
  | frz ob u => exact ⟨_, x.1⟩
  | tbl ps => exact ⟨_, x⟩
  | met f y => exact ⟨_, x⟩
  | ext φ => exact x.2.1
/-- a new object laid where nothing stands -/
theorem inv_lay (I : Inv X pins σ H s) (k : ∀ b u, s.heap.get? b = some u → h'.get? b = some u ∧ b ≠ a) (hn : H a = none) (new : ObjOk X.prog X.w (upd H a o) h' a o) : Inv X pins σ (upd H a o) { s with heap := h', toks := t' } := by
  refine I.un ⟨fun b u q _ _ _ => (k b u q).1, fun b u q _ _ _ => ⟨u.slots, (k b u q).1⟩, fun b u q n _ => ?_, fun b u q _ => ⟨u, (k b u q).1⟩, fun b xs q => ?_, fun b u xs q => ?_, fun b ps q => ⟨#[], ?_⟩⟩ fun b u q => ?_
  · rw [upd_ne (k b u q).2]
    exact n
  · rw [upd_ne (ne_of_none q hn)]
    exact q
  · rw [upd_ne (ne_of_none q hn)]
    exact q
  · rw [upd_ne (ne_of_none q hn), q]
    simp
  · by_cases hb : b = a
    · subst hb
      rw [upd_same] at q
      cases q
      exact new
    · rw [upd_ne hb] at q
      refine (I.hok b u q).stay (fun c v _ r => (k c v r).1) (fun c r => ?_) fun c xs r => ?_
      · rw [upd_ne (ne_of_none r hn)]
        exact r
      · rw [upd_ne (ne_of_none r hn)]
        exact r
end
/-- a, *b, c = a tuple: k targets ahead of the star, j behind it; the rest in a new list -/
def gStar (K : PySem.W.Frag) (k j : Nat) (t : TGs) : TG := fun v σ H Q => ∃ a xs, v = .ref a ∧ SqT K H a xs ∧ k + j ≤ xs.length ∧ ∀ p, H p = none → t (xs.take k ++ [.ref p] ++ (xs.drop k).drop (xs.length - k - j)) σ (upd H p (.lst ((xs.drop k).take (xs.length - k - j)))) Q
section
variable {X : Cx} {pos p : Pos} {e : Expr} {es : List Expr} {t : TG} {u : TGs}
theorem pgs_star (h1 : PG X e t) (h2 : PGs X es u) (hs : (assignEach (.Starred e p :: es) X.env).map (·.2) = assign e X.env :: (assignEach es X.env).map (·.2) := by rfl) : PGs X (.Starred e p :: es) (gCons t u) := by
  refine ⟨fun pins s σ H vs us Q I r h => ?_⟩
  obtain ⟨v, vr, rfl, h⟩ := h
  cases r with
  | cons r rr =>
    rw [hs]
    exact assignInOrder_cons (thn (h1.run pins s σ H _ _ _ I r h) fun _ s1 ⟨σ1, H1, I1, q⟩ => h2.run pins s1 σ1 H1 _ _ Q I1 rr q)
theorem pg_star {ts : TGs} {k j m : Nat} (hc : X.calm = true) (h : PGs X es ts) (hn : (assignEach es X.env).length = k + j + 1 := by rfl) (hst : (assignEach es X.env).findIdx? (·.1) = some k := by rfl) : PG X (.Tuple es m pos) (gStar X.K k j ts) := by
  refine ⟨fun pins s σ H v u Q I r hw => ?_⟩
  obtain ⟨a, xs, rfl, hq, hl, hw⟩ := hw
  cases r
  obtain ⟨its, rv, ht, hz⟩ := I.tuple hq
  have el := rv.length
  have e1 : k + j + 1 - 1 - k = j := by omega
  rw [assign_Tuple]
  refine wpAny_bind (wpAny_standAt ?_)
  unfold unpack
  rw [hn, hst]
  refine wpAny_bind (wpAny_holding (un_star (I.ok.hd hc) ht (by simp; omega) (by simp; omega) (by simp; omega) fun p h1 tk kp hp => ?_))
  rw [e1] at hp ⊢
  simp only [List.size_toArray, ← el] at hp ⊢
  have hf : H p = none := by
    cases q : H p with
    | none => rfl
    | some o =>
      obtain ⟨n, hlt⟩ := obj_there (I.hok p o q)
      exact absurd rfl (kp p _ hlt).2
  have rm : Vals ((xs.drop k).take (xs.length - k - j)) ((its.drop k).take (xs.length - k - j)) := (rv.drop k).take _
  have I1 := inv_lay (t' := tk) (o := .lst ((xs.drop k).take (xs.length - k - j))) I kp hf ⟨by
    rw [List.length_take, List.length_drop]
    omega, _, _, rm, hp⟩
  exact h.run pins _ σ _ _ _ Q I1 (((rv.take k).append (.cons (show RelV (.ref p) (.ref p) from rfl) .nil)).append ((rv.drop k).drop _)) (hw p hf)
end
end Kx
set_option Elab.async false
set_option linter.all false
set_option maxRecDepth 100000
set_option maxHeartbeats 4000000
namespace Kx
open PySem PySem.Spec PyProof.Rows L2
/-! ### enumerate over a tuple, a tuple and a list side by side -/
section
variable {prog : Program} {w : World} {A : Around} {E : Value → Shared → Prop} {s : Shared}
set_option maxHeartbeats 4000000 in
theorem new_enumT {v : Value} {o : Obj} {HH : Heap → Prop} (B : Begins v o HH) :
    Meets (Builtin.«enumerate.__new__» ⟨[.type "enumerate", v], []⟩) (fun _ R s => HH s.heap ∧
      R (.ok (.ret (.ref (s.heap.push o).objs.size))) { s with heap := (s.heap.push o).push { cls := .type "enumerate", data := .fields #[.none, .bool false, .ref s.heap.objs.size, rawInt 0, .none, .none] } }) :=
  .of_wp fun prog w A R s h => by
    obtain ⟨hp, g, d, tk, os⟩ := s
    obtain ⟨h1, h⟩ := h
    have hsub := sub_enumerate
    have q1 : ∀ {A' : Around} {E : Value → Shared → Prop} {Q : Value → Shared → Prop}, Q (.ref hp.objs.size) ⟨hp.push o, g, d, tk, os⟩ → wpAny (model prog w) A' (pyIter v) Q E ⟨hp, g, d, tk, os⟩ :=
      fun q => B.iter prog w _ _ ⟨hp, g, d, tk, os⟩ _ h1 q
    wp_walk using q1
    refine wpAny_stack_any fun st => wpAny_pure ?_
    split
    · rename_i c _ _ _ _ _
      cases (c == Value.type "enumerate") <;> (wp_walk using q1; exact ⟨_, rfl, h⟩)
    · wp_walk using q1
      exact ⟨_, rfl, h⟩
theorem call_enumT {v : Value} {o : Obj} {HH : Heap → Prop} {Q : Value → Shared → Prop} (B : Begins v o HH) (h1 : HH s.heap)
    (h : ∀ h', IsEnum h' (s.heap.objs.size + 1) s.heap.objs.size 0 .none → h'.get? s.heap.objs.size = some o → (∀ b u, s.heap.get? b = some u → h'.get? b = some u) → Q (.ref (s.heap.objs.size + 1)) { s with heap := h' }) :
    wpAny (model prog w) A (call (.type "enumerate") [v]) Q E s := by
  refine callType_new F.called_enumerate (by decide) (F.typeCall_enumerate_1 _) (F.newCall_enumerate_1 _) (fun obj => F.args_object_init_2 obj _) F.entry_enumerate_new (new_enumT B) ⟨h1, ?_⟩
  have hz : (s.heap.push o).objs.size = s.heap.objs.size + 1 := Heap.size_push ..
  show _ ∧ _
  rw [hz]
  have he : IsEnum ((s.heap.push o).push { cls := .type "enumerate", data := .fields #[.none, .bool false, .ref s.heap.objs.size, rawInt 0, .none, .none] }) (s.heap.objs.size + 1) s.heap.objs.size 0 .none := by
    have := Heap.get?_push_size (s.heap.push o) (o := { cls := .type "enumerate", data := .fields #[.none, .bool false, .ref s.heap.objs.size, rawInt 0, .none, .none] }) rfl
    rw [hz] at this
    exact this
  exact ⟨⟨_, he, rfl⟩, h _ he (Heap.get?_push_of_some _ (Heap.get?_push_size _ B.free)) fun b u x => Heap.get?_push_of_some _ (Heap.get?_push_of_some _ x)⟩
end
/-- the tuple at a, each item with its number in a new pair -/
def IteT (K : PySem.W.Frag) (a : Addr) : It :=
  ⟨fun i H => ∃ (xs : List V) (x : V), SqT K H a xs ∧ xs[i]? = some x, fun i H v H' => ∃ T x, v = .ref T ∧ H T = none ∧ H' = upd H T (.tup [.int (i : Nat), x]) ∧ ∀ xs, SqT K H a xs → xs[i]? = some x, fun i H => ∃ xs : List V, SqT K H a xs ∧ xs.length ≤ i⟩
theorem walk_enumT {K : PySem.W.Frag} {a : Addr} {xs : List V} : Walk (IteT K a) xs.length (fun H => SqT K H a xs) (YPair (fun i => some (.int (i : Nat))) (fun i => xs[i]?)) := by
  refine ⟨fun i _ hi q => ⟨xs, xs[i], q, by simp [hi]⟩, fun _ q => ⟨xs, q, Nat.le_refl _⟩, fun i H v H' _ q y => ?_⟩
  obtain ⟨T, x, h1, h2, h3, h4⟩ := y
  exact ⟨T, .int (i : Nat), x, h1, h2, h3, rfl, h4 xs q⟩
theorem turn_enumT {P : Program} {w : World} {K : PySem.W.Frag} {elts : List Expr} {kk : Nat} {tpos : Pos} (a e it : Addr) :
    Turn P w K (.Tuple elts kk tpos) (IteT K a) [e, it] e (fun i h => (∃ old, IsEnum h e it ((i : Nat) : Int) old) ∧ h.IsTupleIter it a i ∧ e ≠ it ∧ e ≠ a ∧ it ≠ a) where
  mem := by simp
  obj := fun i h st b hb => by
    obtain ⟨⟨old, he⟩, ⟨o, ho, hc, hd⟩, _⟩ := st
    have e' : b = e ∨ b = it := by simpa using hb
    rcases e' with z | z
    · rw [z]
      exact ⟨_, he, fun v q => nomatch q⟩
    · rw [z]
      exact ⟨o, ho, fun v q => by rw [hd] at q; cases q⟩
  keep := fun i h h' st k => let ⟨⟨old, he⟩, hi, hne⟩ := st; ⟨⟨old, k e (by simp) _ he⟩, hi.at fun o q => k it (by simp) o q, hne⟩
  item := by
    intro X hP hw hK hc i pins s σ H E I hf st hg
    subst hP hw hK
    obtain ⟨⟨old, he⟩, hit, hne, hea, hia⟩ := st
    obtain ⟨xs, x, hq, hx⟩ := hg
    obtain ⟨its, rv, p, hz⟩ := I.tuple hq
    obtain ⟨u, hu, ru⟩ := rv.get hx
    have hel : e < s.heap.objs.size := Heap.lt_size he
    have hil : it < s.heap.objs.size := by
      obtain ⟨_, q, _⟩ := hit
      exact Heap.lt_size q
    have hil2 : i < its.toArray.size := by
      have : i < its.length := by
        cases Nat.lt_or_ge i its.length with
        | inl h => exact h
        | inr h => rw [List.getElem?_eq_none h] at hu; cases hu
      simpa using this
    refine wpAny_pyNext_enum_itemD (Draws.tuple (show X.A.in1.handled = none from I.ok.hd hc) it a hia.symm its.toArray) he ⟨hit, p⟩ hil2 hne (by simp [hne, hea]) fun x' h' tk hx' ho st' hT hsz hk => ?_
    obtain rfl : x' = u := by
      have e1 : its.toArray[i]? = some u := by simpa using hu
      rw [e1] at hx'
      exact (Option.some.inj hx').symm
    refine ⟨_, rfl, wpAny_letOwnedTupleGo_enum (s := { s with heap := h', toks := tk + 1 }) ho fun h'' he' sb => ?_⟩
    have hT2 : h''.get? s.heap.objs.size = some { cls := .type "tuple", data := .seq #[.int i tk, x'] } := (sb.2 _ (Nat.ne_of_gt hel)).trans hT
    have new : ObjOk X.prog X.w (upd H s.heap.objs.size (.tup [.int (i : Nat), x])) h'' s.heap.objs.size (.tup [.int (i : Nat), x]) :=
      ⟨by show 2 ≤ sizeLine; decide, [.int i tk, x'], .cons ⟨_, rfl⟩ (.cons ru .nil), ⟨_, hT2, rfl, _, rfl⟩⟩
    have I1 : Inv X pins σ (upd H s.heap.objs.size (.tup [.int (i : Nat), x])) { s with heap := h'', toks := tk + 1 } :=
      I.turnedNew (t' := tk + 1) (ch := [e, it]) (fun b ob hb q => (sb.2 b (fun z => hb (by simp [z]))).trans (hk b ob (fun z => hb (by simp [z])) (fun z => hb (by simp [z])) q)) hf (Nat.le_refl _) new
    refine ⟨.ref s.heap.objs.size, _, I1, rfl, ⟨_, x, rfl, I.hok.fresh (Nat.le_refl _), rfl, fun ys hy => by rw [I.tuple_inj hy hq]; exact hx⟩, ⟨⟨x', ?_⟩, st'.1.at fun o q => (sb.2 it (Ne.symm hne)).trans q, hne, hea, hia⟩, fun b hb => ?_⟩
    · have e1 : ((i + 1 : Nat) : Int) = (i : Int) + 1 := by omega
      rw [e1]
      exact he'
    · have hb' : b < s.heap.objs.size := by
        have e' : b = e ∨ b = it := by simpa using hb
        rcases e' with z | z
        · exact z ▸ hel
        · exact z ▸ hil
      rw [upd_ne (Nat.ne_of_lt hb')]
      exact (hf b hb).1
  done := by
    intro X hP hw hK hc i pins s σ H E I hf st hg
    subst hP hw hK
    obtain ⟨⟨old, he⟩, hit, hne, hea, hia⟩ := st
    obtain ⟨xs, hq, hx⟩ := hg
    obtain ⟨its, rv, p, hz⟩ := I.tuple hq
    obtain ⟨f0, f1, f2, f3, f4, f5⟩ := hf it (by simp)
    have hl := rv.length
    have hT : s.TypeIs (.ref e) "enumerate" := ⟨_, he, rfl⟩
    unfold pyNext
    refine wpAny_bind (wpAny_attempt (wpAny_callSpecial?_slot (name := Str.ofString "__next__") hT F.slot_enumerate_next
      (wpAny_call_entry F.slot_enumerate_next hT F.entry_enumerate_next ?_ (F.args_enumerate_next_1 _))))
    show wpAny _ _ (field (.ref e) 2 >>= _) _ _ _
    refine wpAny_bind (wpAny_field he rfl (x := .ref it) rfl ?_)
    refine wpAny_bind (wpAny_nextOf_tuple_end (show X.A.in1.handled = none from I.ok.hd hc) hit p (by simp; omega) fun h' x he' hx' => ?_)
    obtain ⟨o, ho, hcs⟩ := hx'
    refine wpAny_bind (wpAny_isInstance (T := "StopIteration") (b := true) ⟨o, ho, hcs⟩ isSubtype_stop ?_)
    exact wpAny_pure ⟨rfl, I.turned (t' := s.toks) (fun b o hb q => he' b o hb q) f0 f1 f3 f4 f5⟩
  self := fun A i s Q E st h => let ⟨⟨_, he⟩, _⟩ := st; wpAny_pyIter_enum he h
def iEnumT (K : PySem.W.Frag) (ta : TA) : TI := fun σ H R => ta σ H fun vs H1 => ∃ a xs, vs = [.ref a] ∧ SqT K H1 a xs ∧ R (IteT K a) H1
theorem pi_enumT {X : Cx} {e : Expr} {ta : TA} {p pos tpos : Pos} {elts : List Expr} {kk : Nat} (hg : Gl X "enumerate") (hm : X.mg "enumerate" = none) (ha : PA X [e] ta) (hs : starEach [e] X.env = [(false, eval e X.env)] := by rfl) :
    PI X (.Tuple elts kk tpos) (.Call (.Name "enumerate" p) [e] [] pos) (iEnumT X.K ta) := by
  refine ⟨fun pins s σ H R I h => ?_⟩
  refine Call_ (ld_blt I hg hm boot_enumerate (PyProof.Rows.callWith_type1 (thn (ha.run pos pins s σ H _ I h) fun us s1 ⟨vs, H1, I1, r1, q1⟩ => ?_) hs rfl))
  obtain ⟨a, xs, ex, hq, q⟩ := q1
  subst ex
  cases r1 with
  | cons r rr =>
    cases rr
    cases r
    obtain ⟨its, rv, p', hz⟩ := I1.tuple hq
    refine call_enumT (begins_tuple a its.toArray) p' fun h' he hit hk => wpAny_pyIter_enum he ?_
    have I2 : Inv X pins σ H1 { s1 with heap := h' } := I1.kept (t' := s1.toks) hk
    have la : a < s1.heap.objs.size := by
      obtain ⟨o, ho, _⟩ := p'
      exact Heap.lt_size ho
    refine ⟨s1.heap.objs.size + 1, [s1.heap.objs.size + 1, s1.heap.objs.size], _, _, H1, rfl, I2, turn_enumT a (s1.heap.objs.size + 1) s1.heap.objs.size, ⟨⟨.none, he⟩, ⟨_, hit, rfl, rfl⟩, Nat.succ_ne_self _, Nat.ne_of_gt (Nat.lt_succ_of_lt la), Nat.ne_of_gt la⟩, fun b hb => ?_, q⟩
    have hle : s1.heap.objs.size ≤ b := by
      have e' : b = s1.heap.objs.size + 1 ∨ b = s1.heap.objs.size := by simpa using hb
      rcases e' with z | z
      · exact z ▸ Nat.le_succ _
      · exact z ▸ Nat.le_refl _
    exact I1.fpOk hle (I1.hok.fresh hle)
/-- either way of going -/
def iOr (t u : TI) : TI := fun σ H R => t σ H R ∨ u σ H R
theorem pi_or {X : Cx} {tg e : Expr} {t u : TI} (h1 : PI X tg e t) (h2 : PI X tg e u) : PI X tg e (iOr t u) :=
  ⟨fun pins s σ H R I h => h.elim (h1.run pins s σ H R I) (h2.run pins s σ H R I)⟩
end Kx
set_option Elab.async false
set_option linter.all false
set_option maxRecDepth 100000
set_option maxHeartbeats 4000000
namespace Kx
open PySem PySem.Spec PyProof.Rows L2
/-! ### dict comprehensions whose parts only read -/
section
variable {α : Type} {J : It} {n : Nat} {G : Hp → Prop} {Y : Nat → Hp → V → Hp → Prop}
theorem held_snoc (l : Tab) (p : Str × Int) : held (l ++ [p]) = put (held l) p.1 p.2 := by
  unfold held
  rw [List.foldl_append]
  rfl
theorem held_len : ∀ l : Tab, (held l).length ≤ l.length := by
  have key : ∀ (l t : Tab), (l.foldl (fun t p => put t p.1 p.2) t).length ≤ t.length + l.length := by
    intro l
    induction l with
    | nil => intro t; exact Nat.le_refl _
    | cons p r ih =>
      intro t
      have h1 := ih (put t p.1 p.2)
      have h2 := put_len t p.1 p.2
      rw [List.length_cons, List.foldl_cons]
      omega
  intro l
  have := key l []
  simpa [held] using this
theorem dc_R (wk : Walk J n G Y) {g : TG} {tt : TT} {tk tv : TE} {vs : List Nat} {σ : L2.St} {H1 : Hp} {D : Addr} {Qd : Hp → Prop} (l : List α) (kept : α → Bool) (f : α → Str × Int) (hn : l.length = n) (hz : n ≤ 1000) (hD : H1 D = none) (hG : ∀ H, Same H1 H → G H)
    (hs : ∀ i a x H H' (F1 : V → V → Hp → Prop) (F0 : Hp → Prop), l[i]? = some a → Same H1 H → Y i H x H' → (kept a = true → ∀ H4, Same H H4 → F1 (.str (f a).1) (.int (f a).2) H4) → (kept a = false → ∀ H3, Same H H3 → F0 H3) →
      g x (wipe σ vs) H' fun σ2 H2 => wipe σ2 vs = wipe σ vs ∧ tt σ2 H2 fun b H3 => if b = true then tk σ2 H3 fun y H4 => tv σ2 H4 fun z H5 => F1 y z H5 else F0 H3)
    (hd : ∀ H, Same H1 H → H D = some (.dK (kd (held ((l.filter kept).map f)))) → Qd H) :
    ∃ W : Nat → Nat → Hp → Prop, (∃ m, W 0 m (upd H1 D (.dK []))) ∧ ∀ i m H, W i m H →
      (J.stop i H ∧ Qd H) ∨ (J.go i H ∧ ∃ Nx : Hp → Prop, (∀ H', Nx H' → ∃ m', m' < m ∧ W (i + 1) m' H') ∧ ∀ x H', J.yld i H x H' → g x (wipe σ vs) H' fun σ2 H2 => wipe σ2 vs = wipe σ vs ∧ tt σ2 H2 fun b H3 =>
        if b = true then tk σ2 H3 fun y H4 => tv σ2 H4 fun z H5 => ∃ kvs k, y = kV k ∧ H5 D = some (.dK kvs) ∧ kvs.length < sizeLine ∧ Nx (upd H5 D (.dK (putK kvs k z))) else Nx H3) := by
  let Pv : Nat → Hp → Prop := fun i H => Same H1 H ∧ H D = some (.dK (kd (held (((l.take i).filter kept).map f))))
  refine ⟨fun i m H => m = n - i ∧ i ≤ n ∧ Pv i H, ⟨n, by simp, Nat.zero_le _, sm_new hD, upd_same⟩, ?_⟩
  rintro i m H ⟨rfl, hi, p1, p2⟩
  have q := hG H p1
  by_cases hlt : i < n
  · refine .inr ⟨wk.goes i H hlt q, Pv (i + 1), fun H' p' => ⟨n - (i + 1), by omega, rfl, hlt, p'⟩, fun x H' y => ?_⟩
    have hil : i < l.length := by omega
    have e : l.take (i + 1) = l.take i ++ [l[i]] := by rw [List.take_succ, List.getElem?_eq_getElem hil]; rfl
    refine hs i l[i] x H H' (fun y z H5 => ∃ kvs k, y = kV k ∧ H5 D = some (.dK kvs) ∧ kvs.length < sizeLine ∧ Pv (i + 1) (upd H5 D (.dK (putK kvs k z)))) (Pv (i + 1)) (List.getElem?_eq_getElem hil) p1 (wk.yields i H x H' hlt q y) (fun hk H4 s => ?_) fun hk H3 s => ⟨p1.trans s, ?_⟩
    · have h4 := s _ _ p2
      refine ⟨_, .inr (f l[i]).1, rfl, h4, ?_, sm_mut (p1.trans s) hD, ?_⟩
      · rw [kd_len]
        have a1 := held_len (((l.take i).filter kept).map f)
        have a2 := List.length_filter_le kept (l.take i)
        rw [List.length_map] at a1
        rw [List.length_take] at a2
        exact small1000 (by omega)
      · show upd H4 D (.dK (putK (kd (held (((l.take i).filter kept).map f))) (.inr (f l[i]).1) (.int (f l[i]).2))) D = some (.dK (kd (held (((l.take (i + 1)).filter kept).map f))))
        rw [upd_same, kd_put, e, List.filter_append, List.filter_cons, if_pos hk, List.map_append]
        exact congrArg (fun t => some (HO.dK (kd t))) (held_snoc _ _).symm
    · rw [e, List.filter_append, List.filter_cons, if_neg (by rw [hk]; decide)]
      simpa using s _ _ p2
  · have e : i = n := by omega
    subst e
    rw [← hn, List.take_length] at p2
    exact .inl ⟨wk.stops H q, hd H p1 p2⟩
end
/-! ### the counts file -/
/-- counts of a summary of k places: names in order, each once, at least one of each -/
structure Cn (k : Nat) (t : Tab) : Prop where
  asc : (nms t).Pairwise fun a b => a.cps.toList < b.cps.toList
  nm : ∀ p ∈ t, IsNm p.1
  ge : ∀ p ∈ t, 1 ≤ p.2
  len : t.length ≤ k
section
variable {P : Program} {w : World} {K : PySem.W.Frag} {mg : Str → Option Value} {base : Heap}
def spFirstInvalid : Sp := fun vs H Q _ => ∃ (v : V) (k : Nat) (t : Tab), vs = [v, .int k] ∧ TupOf K (PrV K) H v t ∧ Cn k t ∧ k ≤ 1000 ∧ ∀ H', Same H H' → Q .non H'
theorem ok_first_invalid (T : Tx w K mg) : Fn1 P w K mg base 4 "first_invalid" ["thing", "most"] [] (spFirstInvalid (K := K)) := by
  refine T.E_first_invalid (fun vs H Q E h => ?_) (fun cdv A outer s H vs Q E hr h => ?_)
  · obtain ⟨_, _, _, rfl, _⟩ := h
    rfl
  obtain ⟨v, k, t, rfl, ⟨a, xs, rfl, ha, hp⟩, hc, hk, fin⟩ := h
  have hl := pd_len hp
  refine ⟨_, pss_cons (ps_for PassesOwn.never rfl (pi_enumT rfl T.b_enumerate (pa_cons (pv 0) pa_nil)) (pg_tup rfl (pgs_cons (pg_name (i := 2) sc_first_invalid.nd rfl (Or.inl rfl)) (pgs_cons (pg_name (i := 3) sc_first_invalid.nd rfl (Or.inl rfl)) pgs_nil)))
    (pss_one (ps_if (pw_or (pt_cmpR op_ge (pv 2) (pv 1) (nomark _)) (pw_or (pt_not (pt_val (pe_f (ok_is_run T) hr (pa_cons (pv 3) pa_nil)))) (pw_or1 (pw_and (pt_cmpR op_gt (pv 2) pe_int (nomark _)) (pw_and1 (pt_cmpR op_le_str (pe_ix ix_tup (pv 3) pe_int (fun _ _ => rfl)) (pe_ix ix_tup (pe_ix ix_tup (pv 0) (pe_op op_sub (pv 2) pe_int) (fun _ _ => rfl)) pe_int (fun _ _ => rfl)) (nomark _)))).pt))).pt
      (pss_one (ps_ret (pv 2))) pss_nil))) (pss_one (ps_ret pe_non)), ?_⟩
  refine ⟨_, rfl, a, xs, rfl, ha, ?_⟩
  refine for_it walk_enumT (fun i σ H' => Same H H' ∧ ∃ x y, σ = [some (.ref a), some (.int k), x, y]) ⟨Same.refl _, none, none, rfl⟩ (fun i σ H' _ p => st_sm p.1 ha) (fun i x σ H1 H2 hi p y => ?_) fun σ H1 p => fin H1 p.1
  obtain ⟨s1, x0, y0, rfl⟩ := p
  obtain ⟨T0, j, v, rfl, hT, rfl, ej, ev⟩ := y
  cases ej
  obtain ⟨q, eq, pq⟩ := pd_get hp ev
  have hq : q ∈ t := List.mem_of_getElem? eq
  have ik : i < k := by
    have := hc.len
    omega
  have s2 : Same H (upd H1 T0 (.tup [.int i, v])) := s1.trans (sm_new hT)
  obtain ⟨b, rfl, hb⟩ := pq
  refine ⟨T0, _, rfl, .inl (.inl upd_same), rfl, _, _, rfl, _, _, rfl, rfl, ?_⟩
  refine ⟨_, rfl, _, rfl, i, k, rfl, rfl, _, rfl, ?_⟩
  rw [decide_eq_false (show ¬ ((k : Int) ≤ i) by omega)]
  refine iteF ⟨_, rfl, _, q, rfl, ⟨b, rfl, st_sm s2 hb⟩, hc.nm q hq, hc.ge q hq, fun H3 s3 => ⟨true, rfl, iteF ⟨_, rfl, i, 0, rfl, rfl, _, rfl, ?_⟩⟩⟩
  have s4 := s2.trans s3
  cases i with
  | zero => exact iteF (iteF ⟨s4, _, _, rfl⟩)
  | succ i =>
    rw [decide_eq_true (show (0 : Int) < (i + 1 : Nat) by omega)]
    have hi0 : i < xs.length := by omega
    obtain ⟨q0, eq0, b0, e0, hb0⟩ := pd_get hp (List.getElem?_eq_getElem hi0)
    refine iteT ⟨_, rfl, b, _, 0, _, rfl, rfl, st_sm s4 hb, atI_nat (j := 0) rfl, _, rfl, _, rfl, _, _, rfl, rfl, a, xs, ((i + 1 : Nat) : Int) - 1, _, rfl, rfl, st_sm s4 ha, ?_, b0, _, 0, _, rfl, rfl, st_sm s4 hb0, atI_nat (j := 0) rfl, q.1, q0.1, rfl, rfl, _, rfl, ?_⟩
    · have e1 : ((i + 1 : Nat) : Int) - 1 = (i : Nat) := by omega
      rw [e1, ← e0]
      exact atI_nat (List.getElem?_eq_getElem hi0)
    · have lt : q0.1.cps.toList < q.1.cps.toList := by
        have a1 : (nms t)[i]? = some q0.1 := by simp [eq0]
        have a2 : (nms t)[i + 1]? = some q.1 := by simp [eq]
        obtain ⟨b1, c1⟩ := List.getElem?_eq_some_iff.mp a1
        obtain ⟨b2, c2⟩ := List.getElem?_eq_some_iff.mp a2
        rw [← c1, ← c2]
        exact List.pairwise_iff_getElem.mp hc.asc i (i + 1) b1 b2 (Nat.lt_succ_self i)
      rw [decide_eq_true lt]
      exact iteF ⟨s4, _, _, rfl⟩
def spCheckCap : Sp := fun vs H Q _ => ∃ i : Int, vs = [.int i] ∧ 1 ≤ i ∧ i ≤ 8 ∧ Q .non H
theorem ok_check_capacity (T : Tx w K mg) : Fn1 P w K mg base 4 "check_capacity" ["thing"] [] spCheckCap := by
  refine T.E_check_capacity (fun vs H Q E h => ?_) (fun cdv A outer s H vs Q E hr h => ?_)
  · obtain ⟨_, rfl, _⟩ := h
    rfl
  obtain ⟨i, rfl, h1, h2, k⟩ := h
  refine ⟨_, pss_one (ps_if (pt_not (pt_val (pe_f (ok_is_capacity T) hr (pa_cons (pv 0) pa_nil)))) pss_never pss_nil), ?_⟩
  exact ⟨_, rfl, i, rfl, h1, h2, true, rfl, iteF k⟩
def spCheckName : Sp := fun vs H Q _ => ∃ x : Str, vs = [.str x] ∧ IsNm x ∧ ∀ H', Same H H' → Q .non H'
theorem ok_check_name (T : Tx w K mg) : Fn1 P w K mg base 2 "check_name" ["thing"] [] spCheckName := by
  refine T.E_check_name (fun vs H Q E h => ?_) (fun cdv A outer s H vs Q E hr h => ?_)
  · obtain ⟨_, rfl, _⟩ := h
    rfl
  obtain ⟨x, rfl, h1, k⟩ := h
  refine ⟨_, pss_one (ps_if (pt_not (pt_val (pe_f (ok_is_name T) hr (pa_cons (pv 0) pa_nil)))) pss_never pss_nil), ?_⟩
  exact ⟨_, rfl, x, rfl, h1, fun H1 s1 => ⟨true, rfl, iteF (k H1 s1)⟩⟩
end
end Kx
set_option Elab.async false
set_option linter.all false
set_option maxRecDepth 100000
set_option maxHeartbeats 4000000
namespace Kx
open PySem PySem.Spec PyProof.Rows L2
/-! ### more about tables -/
theorem held_id {l : Tab} (h : (nms l).Nodup) : held l = l := by
  have key : ∀ (r t : Tab), (nms (t ++ r)).Nodup → r.foldl (fun t p => put t p.1 p.2) t = t ++ r := by
    intro r
    induction r with
    | nil => intro t _; simp
    | cons p r ih =>
      intro t nd
      have h0 : p.1 ∉ nms t := by
        rw [nms, List.map_append, List.nodup_append] at nd
        intro m
        exact nd.2.2 _ m _ (by simp) rfl
      rw [List.foldl_cons, put_fresh h0, ih _ (by simpa [nms] using nd)]
      simp
  exact key l [] (by simpa using h)
theorem nms_low {t : Tab} {s : Int} : (nms (low t s)).Sublist (nms t) := by
  unfold low nms
  rw [List.map_map]
  exact (List.filter_sublist (l := t) (p := fun p => decide (s < p.2))).map (·.1)
theorem low_nd {t : Tab} {s : Int} (h : (nms t).Nodup) : (nms (low t s)).Nodup := nms_low.nodup h
theorem dg {H : Hp} {a : Addr} {t : Tab} {x : Str} {n : Int} (h : Rd H a (.dK (kd t))) (e : lk t x = some n) : DGet H a (.str x) (some (.int n)) := .inl ⟨kd t, .inr x, h, rfl, by rw [kd_val, e]; rfl⟩
theorem dgo {H : Hp} {a : Addr} {t : Tab} {x : Str} (h : Rd H a (.dK (kd t))) : DGet H a (.str x) ((lk t x).map V.int) := .inl ⟨kd t, .inr x, h, rfl, (kd_val t x).symm⟩
theorem getD_val (t : Tab) (x : Str) : ((lk t x).map V.int).getD (.int 0) = .int (val t x) := by
  unfold val
  cases lk t x <;> rfl
theorem kd_at {t : Tab} {i : Nat} {p : Str × Int} {k : Key} {v : V} (h : t[i]? = some p) (e : (kd t)[i]? = some (k, v)) : k = .inr p.1 ∧ v = .int p.2 := by
  unfold kd at e
  rw [List.getElem?_map, h] at e
  cases e
  exact ⟨rfl, rfl⟩
/-- a list without repeats in another is not longer -/
theorem nd_len {α : Type} [DecidableEq α] : ∀ {l m : List α}, l.Nodup → (∀ x ∈ l, x ∈ m) → l.length ≤ m.length
  | [], _, _, _ => Nat.zero_le _
  | a :: l, m, nd, h => by
    rw [List.nodup_cons] at nd
    have ih := nd_len (l := l) (m := m.erase a) nd.2 fun x hx => by
      have hne : x ≠ a := fun e => nd.1 (e ▸ hx)
      exact (List.mem_erase_of_ne hne).mpr (h x (List.mem_cons_of_mem _ hx))
    have e := List.length_erase_of_mem (h a (List.mem_cons_self ..))
    have : 0 < m.length := List.length_pos_of_mem (h a (List.mem_cons_self ..))
    rw [List.length_cons]
    omega
theorem keys_in {kvs : List (Key × V)} {k : Key} {v : V} (m : k ∈ kvs.map (·.1)) : (putK kvs k v).map (·.1) = kvs.map (·.1) := by
  obtain ⟨p, h1, h2⟩ := List.mem_map.mp m
  unfold putK
  rw [if_pos (List.any_eq_true.mpr ⟨p, h1, decide_eq_true h2⟩), List.map_map]
  refine List.map_congr_left fun p _ => ?_
  by_cases e : p.1 = k <;> simp [e]
theorem keys_new {kvs : List (Key × V)} {k : Key} {v : V} (m : k ∉ kvs.map (·.1)) : (putK kvs k v).map (·.1) = kvs.map (·.1) ++ [k] := by
  unfold putK
  rw [if_neg fun h => ?_]
  · simp
  · obtain ⟨p, h1, h2⟩ := List.any_eq_true.mp h
    exact m (of_decide_eq_true h2 ▸ List.mem_map_of_mem (f := (·.1)) h1)
def Small (i : Int) : Prop := i.natAbs.log2 < 1920
def Sml (t : Tab) : Prop := ∀ p ∈ t, Small p.2
def cnt (p : Str × Int) : Str := ((Str.empty ++ p.1) ++ (":" : Str)) ++ (toString p.2 : String)
def txt (t : Tab) : Str := if t = [] then "-" else Txt.join " " (t.map cnt)
section
variable {P : Program} {w : World} {K : PySem.W.Frag} {mg : Str → Option Value} {base : Heap}
def spTable : Sp := fun vs H Q _ => ∃ (a : Addr) (xs : List V) (ps : Tab), vs = [.ref a] ∧ (SqT K H a xs ∨ H a = some (.lst xs)) ∧ Paired (PrV K H) xs ps ∧ ps.length ≤ 1000 ∧ ∀ d H', Same H H' → H d = none → H' d = some (.dK (kd (tab ps))) → Q (.ref d) H'
theorem tab_snoc (l : Tab) (p : Str × Int) : tab (l ++ [p]) = add (tab l) p.1 p.2 := by
  unfold tab
  rw [List.foldl_append]
  rfl
theorem add_len (t : Tab) (x : Str) (n : Int) : (add t x n).length ≤ t.length + 1 := put_len ..
theorem tab_len (l : Tab) : (tab l).length ≤ l.length := by
  have key : ∀ (l t : Tab), (l.foldl (fun t p => add t p.1 p.2) t).length ≤ t.length + l.length := by
    intro l
    induction l with
    | nil => intro t; exact Nat.le_refl _
    | cons p r ih =>
      intro t
      have h1 := ih (add t p.1 p.2)
      have h2 := add_len t p.1 p.2
      rw [List.length_cons, List.foldl_cons]
      omega
  simpa [tab] using key l []
theorem ok_table_of (T : Tx w K mg) : Fn1 P w K mg base 1 "table_of" ["pairs"] [] (spTable (K := K)) := by
  refine T.E_table_of (fun vs H Q E h => ?_) (fun cdv A outer s H vs Q E hr h => ?_)
  · obtain ⟨_, _, _, rfl, _⟩ := h
    rfl
  obtain ⟨a, xs, ps, rfl, ha, hp, hz, fin⟩ := h
  have hu := hu_of hr
  have hl := pd_len hp
  refine ⟨_, pss_cons (ps_set (i := 1) sc_table_of.nd rfl (Or.inl rfl) pe_dnewK)
    (pss_cons (ps_for PassesOwn.never rfl (pi_or (pi_tup (pv 0)) (pi_list (pv 0))) (pg_tup rfl (pgs_cons (pg_name (i := 2) sc_table_of.nd rfl (Or.inl rfl)) (pgs_cons (pg_name (i := 3) sc_table_of.nd rfl (Or.inl rfl)) pgs_nil)))
      (pss_one (ps_asg (pe_op op_add (pe_dget2 hu (pv 1) (pv 2) pe_int ⟨rfl, rfl, rfl, rfl⟩) (pv 3)) (pg_sub (pv 1) (pv 2) (set_dict hu))))) (pss_one (ps_ret (pv 1)))), ?_⟩
  intro d hd
  have core : ∀ (J : It) (G : Hp → Prop), Walk J xs.length G (YAt xs) → (∀ H', Same H H' → G H') → ∃ W : Nat → Nat → L2.St → Hp → Prop, (∃ m, W 0 m [some (.ref a), some (.ref d), none, none] (upd H d (.dK []))) ∧ ∀ i m σ H, W i m σ H →
      (J.stop i H ∧ ∃ v, σ[1]? = some (some v) ∧ Q v H) ∨ (J.go i H ∧ ∃ N : L2.St → Hp → Prop, (∀ σ' H', N σ' H' → ∃ m', m' < m ∧ W (i + 1) m' σ' H') ∧ ∀ x H', J.yld i H x H' →
        gTup K 2 (gCons (gName 2) (gCons (gName 3) gNil)) x σ H' fun σ2 H2 => tAsg (tOp (rI0 fun i j => .int (i + j)) (tDGet2 (tVar 1) (tVar 2) (tC (.int 0))) (tVar 3)) (gSub (tVar 1) (tVar 2) rSetD) { nx := N, rt := Q, ct := N, bk := fun σ H => ∃ v, σ[1]? = some (some v) ∧ Q v H } σ2 H2) := by
    intro J G wk hG
    refine for_it (D := { nx := fun σ H => ∃ v, σ[1]? = some (some v) ∧ Q v H, rt := Q }) (tb := tAsg (tOp (rI0 fun i j => .int (i + j)) (tDGet2 (tVar 1) (tVar 2) (tC (.int 0))) (tVar 3)) (gSub (tVar 1) (tVar 2) rSetD)) wk (fun i σ H' => Same H H' ∧ (∃ x y, σ = [some (.ref a), some (.ref d), x, y]) ∧ H' d = some (.dK (kd (tab (ps.take i))))) ⟨sm_new hd, ⟨none, none, rfl⟩, upd_same⟩ (fun i σ H' _ p => hG _ p.1) (fun i x σ H1 H2 hi p y => ?_) fun σ H1 p => ?_
    · obtain ⟨s1, ⟨x0, y0, rfl⟩, h1⟩ := p
      obtain ⟨rfl, ex⟩ := y
      obtain ⟨q, eq, b, rfl, hb⟩ := pd_get hp ex
      have hip : i < ps.length := by omega
      have e : ps.take (i + 1) = ps.take i ++ [q] := by
        rw [List.take_succ, eq]
        rfl
      refine ⟨b, _, rfl, st_sm s1 hb, rfl, _, _, rfl, _, _, rfl, rfl, ?_⟩
      refine ⟨_, rfl, d, rfl, .inl ⟨_, .inl h1⟩, _, rfl, _, dgo (.inl h1), _, rfl, _, _, getD_val _ _, rfl, ?_⟩
      refine ⟨_, rfl, _, rfl, d, _, rfl, DPut.k (k := .inr q.1) h1 ?_, sm_mut s1 hd, ⟨_, _, rfl⟩, ?_⟩
      · rw [kd_len]
        have := tab_len (ps.take i)
        rw [List.length_take] at this
        exact small1000 (by omega)
      · rw [upd_same, kd_put, e, tab_snoc]
        rfl
    · obtain ⟨s1, ⟨x0, y0, rfl⟩, h1⟩ := p
      rw [hl, List.take_length] at h1
      exact ⟨_, rfl, fin d _ s1 hd h1⟩
  rcases ha with ha | ha
  · exact .inl ⟨_, rfl, a, rfl, ⟨xs, st_sm (sm_new hd) ha⟩, core _ _ walk_tup fun H' s => st_sm s ha⟩
  · exact .inr ⟨_, rfl, a, rfl, ⟨xs, SqL.of (sm_new hd a _ ha)⟩, core _ _ walk_list fun H' s => SqL.of (s a _ ha)⟩
def spCounts : Sp := fun vs H Q _ => ∃ (d : Addr) (t : Tab), vs = [.ref d] ∧ H d = some (.dK (kd t)) ∧ t.length < 64 ∧ ∀ v H', Same H H' → TupOf K (PrV K) H' v (flatP t) → Q v H'
theorem srtN_len (l : List Str) : (srtN l).length = l.length := (srtN_perm l).length_eq
theorem mem_srtN {l : List Str} {x : Str} : x ∈ srtN l ↔ x ∈ l := (srtN_perm l).mem_iff
theorem ok_counts_of_table (T : Tx w K mg) : Fn1 P w K mg base 1 "counts_of_table" ["table"] [] (spCounts (K := K)) := by
  refine T.E_counts_of_table (fun vs H Q E h => ?_) (fun cdv A outer s H vs Q E hr h => ?_)
  · obtain ⟨_, _, rfl, _⟩ := h
    rfl
  obtain ⟨d, t, rfl, hd, hz, fin⟩ := h
  have hu := hu_of hr
  refine ⟨_, pss_one (ps_ret (pe_callTy call_tuple_of rfl T.b_tuple bt_tuple (pa_cons (pe_lc (own := [("name", 1)]) rfl sc_counts_of_table.nd (pi_list (pe_callB (call_sortedD rfl) rfl T.b_sorted bt_sorted (pa_cons (pv 0) pa_nil))) (blkOk_by (N := n_counts_of_table) (sc := defScope s_counts_of_table) (by decide +kernel))
      (fun _ _ _ _ _ => pg_name (i := 1) sc_counts_of_table.nd rfl (Or.inl rfl)) (fun _ _ _ _ _ => pts_one (pt_cmpR op_gt (pe_dget hu (pv 0) (pv 1) (fun _ _ => rfl)) pe_int (nomark _))) (fun _ _ _ _ _ => pe_tup (pa_cons (pv 1) (pa_cons (pe_dget hu (pv 0) (pv 1) (fun _ _ => rfl)) pa_nil)))) pa_nil))), ?_⟩
  refine ⟨_, rfl, d, _, nms t, rfl, .inl hd, kd_keys t, by simpa using hz, fun ys p pm so hp => ⟨p, rfl, ⟨_, SqL.of upd_same⟩, fun D hD => ?_⟩⟩
  obtain rfl := sortedS_srt pm so
  have hS := sm_new (o := .lst ((srtN (nms t)).map V.str)) hp
  have hlen := srtN_len (nms t)
  rw [List.length_map] at hlen
  refine lc_R (C := 0) (walk_list (xs := (srtN (nms t)).map V.str)) (srtN (nms t)) (fun x => decide (0 < val t x)) (fun x => (x, val t x)) (PrV K) stb_pr (by simp) (by rw [List.length_map]; omega) hD (fun H' s => SqL.of (s _ _ upd_same)) (fun i x v H1 H2 F1 F0 hi s y f1 f0 => ?_) fun ys H1 s hy q => ?_
  · obtain ⟨rfl, ev⟩ := y
    rw [List.getElem?_map, hi] at ev
    cases ev
    have hd1 := s _ _ (hS _ _ hd)
    have hx := lk_val (mem_srtN.mp (List.mem_of_getElem? hi))
    refine ⟨rfl, _, rfl, _, rfl, d, _, rfl, dg (.inl hd1) hx, _, _, rfl, rfl, _, rfl, ?_⟩
    cases e : decide (0 < val t x) with
    | false => exact iteF (f0 e _ (Same.refl _))
    | true => exact iteT ⟨_, rfl, _, rfl, _, rfl, d, _, rfl, dg (.inl hd1) hx, by show 2 ≤ sizeLine; decide, fun q hq => f1 e _ _ (sm_new hq) ⟨q, rfl, .inl (.inl upd_same)⟩⟩
  · refine ⟨D, ys, rfl, .inl ⟨SqL.of hy, fun l hl => ?_⟩⟩
    have s2 := sm_new (o := .tup ys) hl
    exact fin _ _ ((hS.trans s).trans s2) ⟨l, ys, rfl, .inl (.inl upd_same), pd_imp (fun _ _ h => stb_pr.sm (C := 0) s2 h) q⟩
end
end Kx
set_option Elab.async false
set_option linter.all false
set_option maxRecDepth 100000
set_option maxHeartbeats 4000000
namespace Kx
open PySem PySem.Spec PyProof.Rows L2
section
variable {P : Program} {w : World} {K : PySem.W.Frag} {mg : Str → Option Value} {base : Heap}
/-- runs of at most twelve names -/
structure Od (rs : Tab) : Prop where
  nm : ∀ p ∈ rs, IsNm p.1
  ge : ∀ p ∈ rs, 1 ≤ p.2
  len : rs.length ≤ 1000
  few : ∃ ws : List Str, ws.length ≤ 12 ∧ ∀ p ∈ rs, p.1 ∈ ws
def spNoOrder : Sp := fun vs H Q _ => ∃ (v : V) (rs : Tab), vs = [v] ∧ TupOf K (PrV K) H v rs ∧ Od rs ∧ ∀ H', Same H H' → Q .non H'
theorem ok_first_no_order (T : Tx w K mg) : Fn1 P w K mg base 4 "first_no_order" ["thing"] [] (spNoOrder (K := K)) := by
  refine T.E_first_no_order (fun vs H Q E h => ?_) (fun cdv A outer s H vs Q E hr h => ?_)
  · obtain ⟨_, _, rfl, _⟩ := h
    rfl
  obtain ⟨v, rs, rfl, ⟨a, xs, rfl, ha, hp⟩, ho, fin⟩ := h
  have hu := hu_of hr
  have hl := pd_len hp
  obtain ⟨ws, hw, few⟩ := ho.few
  obtain ⟨t1, hm1⟩ := T.i_MAX_RUNS
  obtain ⟨t2, hm2⟩ := T.i_MAX_NAMES
  refine ⟨_, pss_cons (ps_set (i := 1) sc_first_no_order.nd rfl (Or.inl rfl) pe_dnewK)
    (pss_cons (ps_for PassesOwn.never rfl (pi_enumT rfl T.b_enumerate (pa_cons (pv 0) pa_nil)) (pg_tup rfl (pgs_cons (pg_name (i := 2) sc_first_no_order.nd rfl (Or.inl rfl)) (pgs_cons (pg_name (i := 3) sc_first_no_order.nd rfl (Or.inl rfl)) pgs_nil)))
      (pss_cons (ps_if (pw_or (pt_cmpR op_ge (pv 2) (pe_glob (v := .int 1000) (by rfl) hm1 ⟨_, rfl⟩) (nomark _)) (pw_or1 (pt_not (pt_val (pe_f (ok_is_run T) hr (pa_cons (pv 3) pa_nil)))))).pt (pss_one (ps_ret (pv 2))) pss_nil)
      (pss_cons (ps_asg pe_bl (pg_sub (pv 1) (pe_ix ix_tup (pv 3) pe_int (fun _ _ => rfl)) (set_dict hu)))
      (pss_one (ps_if (pt_cmpR op_gt (pe_callB call_lenD rfl T.b_len bt_len (pa_cons (pv 1) pa_nil)) (pe_glob (v := .int 12) (by rfl) hm2 ⟨_, rfl⟩) (nomark _)) (pss_one (ps_ret (pv 2))) pss_nil)))))
    (pss_one (ps_ret pe_non))), ?_⟩
  intro d hd
  refine ⟨_, rfl, a, xs, rfl, st_sm (sm_new hd) ha, ?_⟩
  refine for_it walk_enumT (fun i σ H' => Same H H' ∧ (∃ x y, σ = [some (.ref a), some (.ref d), x, y]) ∧ ∃ kvs : List (Key × V), H' d = some (.dK kvs) ∧ (kvs.map (·.1)).Nodup ∧ ∀ k ∈ kvs.map (·.1), k ∈ ws.map Sum.inr) ⟨sm_new hd, ⟨none, none, rfl⟩, [], upd_same, List.nodup_nil, fun k hk => by cases hk⟩ (fun i σ H' _ p => st_sm p.1 ha) (fun i x σ H1 H2 hi p y => ?_) fun σ H1 p => fin H1 p.1
  obtain ⟨s1, ⟨x0, y0, rfl⟩, kvs, h1, nd, sub⟩ := p
  obtain ⟨T0, j, v, rfl, hT, rfl, ej, ev⟩ := y
  cases ej
  obtain ⟨q, eq, b, rfl, hb⟩ := pd_get hp ev
  have hq : q ∈ rs := List.mem_of_getElem? eq
  have il := ho.len
  have s2 : Same H1 (upd H1 T0 (.tup [.int i, .ref b])) := sm_new hT
  refine ⟨T0, _, rfl, .inl (.inl upd_same), rfl, _, _, rfl, _, _, rfl, rfl, ?_⟩
  refine ⟨_, rfl, i, 1000, rfl, rfl, _, rfl, ?_⟩
  rw [decide_eq_false (show ¬ ((1000 : Int) ≤ i) by omega)]
  refine iteF ⟨_, rfl, _, q, rfl, ⟨b, rfl, st_sm (s1.trans s2) hb⟩, ho.nm q hq, ho.ge q hq, fun H3 s3 => ⟨true, rfl, iteF ?_⟩⟩
  have h3 := s3 _ _ (s2 _ _ h1)
  have kl : kvs.length ≤ ws.length := by
    have := nd_len nd sub
    simpa using this
  refine ⟨_, rfl, _, rfl, b, _, 0, _, rfl, rfl, st_sm (s1.trans (s2.trans s3)) hb, atI_nat (j := 0) rfl, d, _, rfl, DPut.k (k := .inr q.1) h3 (small1000 (by omega)), ?_⟩
  have s5 : Same H (upd H3 d (.dK (putK kvs (.inr q.1) (.bl true)))) := sm_mut (s1.trans (s2.trans s3)) hd
  have inv : ((putK kvs (.inr q.1) (.bl true)).map (·.1)).Nodup ∧ ∀ k ∈ (putK kvs (.inr q.1) (.bl true)).map (·.1), k ∈ ws.map Sum.inr := by
    by_cases m : (Sum.inr q.1 : Key) ∈ kvs.map (·.1)
    · rw [keys_in m]
      exact ⟨nd, sub⟩
    · rw [keys_new m]
      refine ⟨List.nodup_append.mpr ⟨nd, by simp, fun x hx y hy e => ?_⟩, fun k hk => ?_⟩
      · rw [List.mem_singleton.mp hy] at e
        exact m (e ▸ hx)
      · rcases List.mem_append.mp hk with z | z
        · exact sub k z
        · rw [List.mem_singleton.mp z]
          exact List.mem_map_of_mem (few q hq)
  refine ⟨_, rfl, d, _, rfl, upd_same, _, 12, rfl, rfl, _, rfl, ?_⟩
  have := nd_len inv.1 inv.2
  rw [List.length_map, List.length_map] at this
  rw [decide_eq_false (show ¬ ((12 : Int) < (putK kvs (.inr q.1) (.bl true)).length) by omega)]
  exact iteF ⟨s5, ⟨_, _, rfl⟩, _, upd_same, inv⟩
theorem ok_check_order (T : Tx w K mg) : Fn1 P w K mg base 5 "check_order" ["thing"] [] (spNoOrder (K := K)) := by
  refine T.E_check_order (fun vs H Q E h => ?_) (fun cdv A outer s H vs Q E hr h => ?_)
  · obtain ⟨_, _, rfl, _⟩ := h
    rfl
  obtain ⟨v, rs, rfl, hv, ho, fin⟩ := h
  obtain ⟨a, xs, rfl, ha, hp⟩ := id hv
  refine ⟨_, pss_cons (ps_if (pt_not (pt_val (pe_callB call_isi rfl T.b_isinstance bt_isi (pa_cons (pv 0) (pa_cons (pe_bltn (v := .ty "tuple") rfl T.b_tuple bt_tuple rfl) pa_nil))))) pss_never pss_nil)
    (pss_cons (ps_set (i := 1) sc_check_order.nd rfl (Or.inl rfl) (pe_f (ok_first_no_order T) hr (pa_cons (pv 0) pa_nil)))
    (pss_one (ps_if (pt_cmp (pc_notN (pv 1))) pss_never pss_nil))), ?_⟩
  refine ⟨_, rfl, _, _, _, _, true, rfl, .ty "tuple", ty_tup ha, kit_ty (by decide +kernel), true, rfl, iteF ?_⟩
  exact ⟨_, rfl, _, rs, rfl, hv, ho, fun H1 s1 => ⟨_, rfl, false, rfl, iteF (fin H1 s1)⟩⟩
def spLowered : Sp := fun vs H Q _ => ∃ (d : Addr) (t : Tab) (n : Int), vs = [.ref d, .int n] ∧ H d = some (.dK (kd t)) ∧ (nms t).Nodup ∧ t.length ≤ 1000 ∧ ∀ e H', Same H H' → H e = none → H' e = some (.dK (kd (low t n))) → Q (.ref e) H'
theorem ok_lowered (T : Tx w K mg) : Fn1 P w K mg base 1 "lowered" ["table", "step"] [] spLowered := by
  refine T.E_lowered (fun vs H Q E h => ?_) (fun cdv A outer s H vs Q E hr h => ?_)
  · obtain ⟨_, _, _, rfl, _⟩ := h
    rfl
  obtain ⟨d, t, n, rfl, hd, nd, hz, fin⟩ := h
  have hu := hu_of hr
  refine ⟨_, pss_one (ps_ret (pe_lock (pe_dc (own := [("name", 2)]) rfl sc_lowered.nd (pi_keys (pv 0)) (blkOk_by (N := n_lowered) (sc := defScope s_lowered) (by decide +kernel))
      (fun _ _ _ _ _ => pg_name (i := 2) sc_lowered.nd rfl (Or.inl rfl)) (fun _ _ _ _ _ => pts_one (pt_cmpR op_gt (pe_dget hu (pv 0) (pv 2) (fun _ _ => rfl)) (pv 1) (nomark _))) (fun _ _ _ _ _ => pv 2) (fun _ _ _ _ _ => pe_op op_sub (pe_dget hu (pv 0) (pv 2) (fun _ _ => rfl)) (pv 1))))), ?_⟩
  refine ⟨d, _, hd, trivial, fun od => ⟨_, rfl, d, od, rfl, .inl ⟨_, upd_same, fun D hD => ?_⟩⟩⟩
  have hdD : D ≠ d := fun e => by rw [e, upd_same] at hD; cases hD
  refine dc_R walk_keys t (fun p => decide (n < p.2)) (fun p => (p.1, p.2 - n)) (kd_len t).symm (by rw [kd_len]; exact hz) hD (fun H' s => s _ _ upd_same) (fun i p x H1 H2 F1 F0 hi s y f1 f0 => ?_) fun H1 s h1 => ?_
  · obtain ⟨rfl, k, v, ek, rfl⟩ := y
    obtain ⟨rfl, rfl⟩ := kd_at hi ek
    have rd : Rd H2 d (.dK (kd t)) := .inr ⟨od, s _ _ upd_same⟩
    have hx := lk_mem nd (List.mem_of_getElem? hi)
    refine ⟨rfl, _, rfl, _, rfl, d, _, rfl, dg rd hx, _, rfl, _, _, rfl, rfl, _, rfl, ?_⟩
    cases e : decide (n < p.2) with
    | false => exact iteF (f0 e _ (Same.refl _))
    | true => exact iteT ⟨_, rfl, _, rfl, _, rfl, d, _, rfl, dg rd hx, _, rfl, _, _, rfl, rfl, f1 e _ (Same.refl _)⟩
  · have e1 : held ((t.filter fun p => decide (n < p.2)).map fun p => (p.1, p.2 - n)) = low t n := held_id (low_nd nd)
    rw [e1] at h1
    have hDn : H D = none := by rw [← hD, upd_ne hdD]
    exact ⟨s _ _ upd_same, fin D _ (sm_lock hd s) hDn (by rw [upd_ne hdD]; exact h1)⟩
/-- a table to be lowered, extended -/
structure Tb (t : Tab) : Prop where
  nd : (nms t).Nodup
  ge : ∀ p ∈ t, 1 ≤ p.2
  len : t.length ≤ 60
def spArrived : Sp := fun vs H Q _ => ∃ (k : Nat) (d : Addr) (t : Tab) (x : Str) (n : Int), vs = [.int k, .ref d, .str x, .int n] ∧ H d = some (.dK (kd t)) ∧ Tb t ∧ 1 ≤ k ∧ 1 ≤ n ∧
  ∀ e p H', Same H H' → H' e = some (.dK (kd (arr k t x n).1)) → H' p = some (.tup [.ref e, .int (arr k t x n).2]) → Q (.ref p) H'
theorem mnL_mem : ∀ {l : List Int}, l ≠ [] → mnL l ∈ l
  | [], h => absurd rfl h
  | [a], _ => by simp [mnL]
  | a :: b :: r, _ => by
    have ih := mnL_mem (l := b :: r) (by simp)
    unfold mnL
    rcases Int.min_def a (mnL (b :: r)) ▸ (by split <;> simp : (if a ≤ mnL (b :: r) then a else mnL (b :: r)) = a ∨ (if a ≤ mnL (b :: r) then a else mnL (b :: r)) = mnL (b :: r)) with e | e
    · rw [e]
      exact List.mem_cons_self ..
    · rw [e]
      exact List.mem_cons_of_mem _ ih
theorem mnL_le : ∀ {l : List Int} {y : Int}, y ∈ l → mnL l ≤ y
  | [], _, h => by cases h
  | [a], y, h => by
    rw [List.mem_singleton.mp h]
    exact Int.le_refl _
  | a :: b :: r, y, h => by
    unfold mnL
    rcases List.mem_cons.mp h with e | e
    · rw [e]
      exact Int.min_le_left ..
    · exact Int.le_trans (Int.min_le_right ..) (mnL_le e)
theorem mn_eq {t : Tab} (h : t ≠ []) {m : Int} (h1 : m ∈ t.map (·.2)) (h2 : ∀ y ∈ t.map (·.2), m ≤ y) : m = mn t := by
  have a := mnL_le h1
  have b := h2 _ (mnL_mem (l := t.map (·.2)) (by simpa using h))
  unfold mn
  omega
end
end Kx
set_option Elab.async false
set_option linter.all false
set_option maxRecDepth 100000
set_option maxHeartbeats 4000000
namespace Kx
open PySem PySem.Spec PyProof.Rows L2
/-! ### put, low, arr -/
theorem nms_put {t : Tab} {x : Str} {n : Int} : nms (put t x n) = if x ∈ nms t then nms t else nms t ++ [x] := by
  by_cases h : x ∈ nms t
  · rw [if_pos h]
    obtain ⟨p, h1, h2⟩ := List.mem_map.mp h
    unfold put
    rw [if_pos (List.any_eq_true.mpr ⟨p, h1, decide_eq_true h2⟩), nms, List.map_map]
    refine List.map_congr_left fun p _ => ?_
    by_cases e : p.1 = x <;> simp [e]
  · rw [if_neg h, put_fresh h]
    simp [nms]
theorem put_nd {t : Tab} {x : Str} {n : Int} (h : (nms t).Nodup) : (nms (put t x n)).Nodup := by
  rw [nms_put]
  by_cases m : x ∈ nms t
  · rw [if_pos m]
    exact h
  · rw [if_neg m]
    refine List.nodup_append.mpr ⟨h, by simp, fun a ha b hb e => ?_⟩
    rw [List.mem_singleton.mp hb] at e
    exact m (e ▸ ha)
theorem mem_put {t : Tab} {x : Str} {n : Int} {p : Str × Int} (h : p ∈ put t x n) : p ∈ t ∨ p = (x, n) := by
  unfold put at h
  split at h
  · obtain ⟨q, h1, h2⟩ := List.mem_map.mp h
    by_cases e : q.1 = x
    · rw [if_pos e] at h2
      exact .inr (by rw [← h2, e])
    · rw [if_neg e] at h2
      exact .inl (h2 ▸ h1)
  · rcases List.mem_append.mp h with h | h
    · exact .inl h
    · exact .inr (List.mem_singleton.mp h)
theorem val_ge {t : Tab} {x : Str} (h : ∀ p ∈ t, 1 ≤ p.2) : 0 ≤ val t x := by
  unfold val lk
  cases e : t.find? fun p => decide (p.1 = x) with
  | none => exact Int.le_refl _
  | some p =>
    have := h p (List.mem_of_find?_eq_some e)
    show 0 ≤ p.2
    omega
theorem low_mem {t : Tab} {s : Int} {p : Str × Int} : p ∈ low t s ↔ ∃ q ∈ t, s < q.2 ∧ p = (q.1, q.2 - s) := by
  unfold low
  rw [List.mem_map]
  constructor
  · rintro ⟨q, h1, h2⟩
    rw [List.mem_filter] at h1
    exact ⟨q, h1.1, of_decide_eq_true h1.2, h2.symm⟩
  · rintro ⟨q, h1, h2, h3⟩
    exact ⟨q, List.mem_filter.mpr ⟨h1, decide_eq_true h2⟩, h3.symm⟩
theorem low_len {t : Tab} {s : Int} : (low t s).length ≤ t.length := by
  unfold low
  rw [List.length_map]
  exact List.length_filter_le ..
theorem low_lt {t : Tab} {s : Int} (h : ∃ p ∈ t, p.2 ≤ s) : (low t s).length < t.length := by
  obtain ⟨p, h1, h2⟩ := h
  unfold low
  rw [List.length_map]
  refine Nat.lt_of_le_of_ne (List.length_filter_le ..) fun e => ?_
  have := List.length_filter_eq_length_iff.mp e p h1
  have := of_decide_eq_true this
  omega
theorem low_all {t : Tab} {s : Int} (h : ∀ p ∈ t, s < p.2) : low t s = t.map fun p => (p.1, p.2 - s) := by
  unfold low
  rw [List.filter_eq_self.mpr fun p hp => decide_eq_true (h p hp)]
theorem mn_mem {t : Tab} (h : t ≠ []) : ∃ p ∈ t, p.2 = mn t := by
  obtain ⟨p, h1, h2⟩ := List.mem_map.mp (mnL_mem (l := t.map (·.2)) (by simpa using h))
  exact ⟨p, h1, h2⟩
theorem mn_le {t : Tab} {p : Str × Int} (h : p ∈ t) : mn t ≤ p.2 := mnL_le (List.mem_map_of_mem (f := (·.2)) h)
theorem Tb.low {t : Tab} {s : Int} (h : Tb t) : Tb (low t s) := ⟨low_nd h.nd, fun p hp => by
  obtain ⟨q, h1, h2, rfl⟩ := low_mem.mp hp
  show 1 ≤ q.2 - s
  omega, Nat.le_trans low_len h.len⟩
/-- behind one lowering no second follows -/
theorem arr_step {k : Nat} {t : Tab} {x : Str} {n : Int} (hk : 1 ≤ k) (c : 0 < n ∧ x ∉ nms t ∧ t.length = k) : arr k t x n = ((arr k (low t (min n (mn t))) x (n - min n (mn t))).1, min n (mn t) + (arr k (low t (min n (mn t))) x (n - min n (mn t))).2) := by
  have ne : t ≠ [] := fun e => by
    have := c.2.2
    rw [e] at this
    simp at this
    omega
  have c2 : ¬ (0 < n - min n (mn t) ∧ x ∉ nms (low t (min n (mn t))) ∧ (low t (min n (mn t))).length = k) := fun h => by
    have e : min n (mn t) = mn t := by omega
    obtain ⟨p, h1, h2⟩ := mn_mem ne
    have := low_lt (t := t) (s := min n (mn t)) ⟨p, h1, by omega⟩
    have := c.2.2
    omega
  rw [arr, if_pos c, arr, if_neg c2]
  exact Prod.ext rfl (by simp)
theorem arr_end {k : Nat} {t : Tab} {x : Str} {n : Int} (c : ¬ (0 < n ∧ x ∉ nms t ∧ t.length = k)) : arr k t x n = (if 0 < n then add t x n else t, 0) := by rw [arr, if_neg c]
section
variable {P : Program} {w : World} {K : PySem.W.Frag} {mg : Str → Option Value} {base : Heap}
/-- the loop's test -/
theorem wcond {σ : L2.St} {H : Hp} {d k : Nat} {t : Tab} {x : Str} {n : Int} {F : Bool → Hp → Prop} (e0 : σ[0]? = some (some (.int k))) (e1 : σ[1]? = some (some (.ref d))) (e2 : σ[2]? = some (some (.str x))) (e3 : σ[3]? = some (some (.int n))) (h1 : H d = some (.dK (kd t)))
    (h : F (decide (0 < n ∧ x ∉ nms t ∧ t.length = k)) H) :
    tAnd (tTest (tOp (rI0 fun i j => .bl (decide (j < i))) (tVar 3) (tC (.int 0)))) (tAnd (tB (tDNotIn (tVar 2) (tVar 1))) (tTest (tOp rEq (tCB (fun xs H Q => ∃ a kvs, xs = [V.ref a] ∧ H a = some (.dK kvs) ∧ Q (.int kvs.length) H) (tCons (tVar 1) tNil)) (tVar 0)))) σ H F := by
  refine ⟨_, e3, n, 0, rfl, rfl, _, rfl, ?_⟩
  by_cases c1 : 0 < n
  · rw [decide_eq_true c1]
    refine iteT ⟨_, e2, _, e1, d, _, rfl, dgo (.inl h1), _, rfl, ?_⟩
    by_cases c2 : x ∈ nms t
    · rw [decide_eq_false (fun z => z.2.1 c2)] at h
      have e : (!((lk t x).map V.int).isSome) = false := by
        rw [Option.isSome_map, lk_some.mpr c2]
        rfl
      rw [e]
      exact iteF h
    · have e : (!((lk t x).map V.int).isSome) = true := by
        rw [lk_none.mpr c2]
        rfl
      rw [e]
      refine iteT ⟨_, e1, d, _, rfl, h1, _, e0, rfl, _, rfl, ?_⟩
      have e4 : decide (V.int ((kd t).length : Nat) = V.int (k : Nat)) = decide (0 < n ∧ x ∉ nms t ∧ t.length = k) := by
        rw [kd_len]
        exact decide_eq_decide.mpr ⟨fun z => ⟨c1, c2, by injection z with z; omega⟩, fun z => by rw [z.2.2]⟩
      rw [e4]
      exact h
  · rw [decide_eq_false (fun z => c1 z.1)] at h
    rw [decide_eq_false c1]
    exact iteF h
theorem ok_arrived (T : Tx w K mg) : Fn1 P w K mg base 2 "arrived" ["capacity", "table", "name", "times"] [] spArrived := by
  refine T.E_arrived (fun vs H Q E h => ?_) (fun cdv A outer s H vs Q E hr h => ?_)
  · obtain ⟨_, _, _, _, _, rfl, _⟩ := h
    rfl
  obtain ⟨k, d, t, x, n, rfl, hd, tb, hk, hn, fin⟩ := h
  have hu := hu_of hr
  refine ⟨_, pss_cons (ps_set (i := 4) sc_arrived.nd rfl (Or.inl rfl) pe_int)
    (pss_cons (ps_while PassesOwn.never (pw_and (pt_cmpR op_gt (pv 3) pe_int (nomark _)) (pw_and (pt_cmp (pc_dnotin hu (pv 2) (pv 1))) (pw_and1 (pt_cmpR op_eq (pe_callB call_lenD (by rfl) T.b_len bt_len (pa_cons (pv 1) pa_nil)) (pv 0) (nomark _))))).pt
      (pss_cons (ps_set (i := 5) sc_arrived.nd rfl (Or.inl rfl) (pe_callB (call_min2 rfl) rfl T.b_min bt_min (pa_cons (pv 3) (pa_cons (pe_callB (cr_min rfl) rfl T.b_min bt_min (pa_cons (pe_lock (pe_lc (own := [("known", 6)]) (g := gName 6) (tt := tYes) rfl sc_arrived.nd (pi_keys (pv 1)) (blkOk_by (N := n_arrived) (sc := defScope s_arrived) (by decide +kernel))
        (fun _ _ _ _ _ => pg_name (i := 6) sc_arrived.nd rfl (Or.inl rfl)) (fun _ _ _ _ _ => pts_nil) (fun _ _ _ _ _ => pe_dget hu (pv 1) (pv 6) (fun _ _ => rfl)))) pa_nil)) pa_nil))))
      (pss_one (ps_asg (pe_tup (pa_cons (pe_f (ok_lowered T) hr (pa_cons (pv 1) (pa_cons (pv 5) pa_nil))) (pa_cons (pe_op op_sub (pv 3) (pv 5)) (pa_cons (pe_op op_add (pv 4) (pv 5)) pa_nil))))
        (pg_tup rfl (pgs_cons (pg_name (i := 1) sc_arrived.nd rfl (Or.inr rfl)) (pgs_cons (pg_name (i := 3) sc_arrived.nd rfl (Or.inl rfl)) (pgs_cons (pg_name (i := 4) sc_arrived.nd rfl (Or.inl rfl)) pgs_nil))))))))
    (pss_cons (ps_set (i := 7) sc_arrived.nd rfl (Or.inl rfl) (pe_callTy call_dictD rfl T.b_dict bt_dict (pa_cons (pv 1) pa_nil)))
    (pss_cons (ps_if (pt_cmpR op_gt (pv 3) pe_int (nomark _)) (pss_one (ps_asg (pe_op op_add (pe_dget2 hu (pv 7) (pv 2) pe_int ⟨rfl, rfl, rfl, rfl⟩) (pv 3)) (pg_sub (pv 7) (pv 2) (set_dict hu)))) pss_nil)
    (pss_one (ps_ret (pe_tup (pa_cons (pv 7) (pa_cons (pv 4) pa_nil)))))))), ?_⟩
  refine ⟨fun m σ H' => ∃ d1 t1 n1 l1 a b, σ = [some (.int k), some (.ref d1), some (.str x), some (.int n1), some (.int l1), a, b, none] ∧ Same H H' ∧ H' d1 = some (.dK (kd t1)) ∧ Tb t1 ∧ 0 ≤ n1 ∧ m = n1.toNat ∧ (arr k t1 x n1).1 = (arr k t x n).1 ∧ l1 + (arr k t1 x n1).2 = (arr k t x n).2, ⟨n.toNat, d, t, n, 0, none, none, rfl, Same.refl _, hd, tb, by omega, rfl, rfl, by omega⟩, ?_⟩
  rintro m σ H1 ⟨d1, t1, n1, l1, a, b, rfl, s1, h1, tb1, hn1, rfl, r1, r2⟩
  refine wcond rfl rfl rfl rfl h1 ?_
  by_cases c : 0 < n1 ∧ x ∉ nms t1 ∧ t1.length = k
  · rw [decide_eq_true c]
    refine iteT ⟨fun σ' H' => ∃ m', m' < n1.toNat ∧ ∃ d1 t1 n1 l1 a b, σ' = [some (.int k), some (.ref d1), some (.str x), some (.int n1), some (.int l1), a, b, none] ∧ Same H H' ∧ H' d1 = some (.dK (kd t1)) ∧ Tb t1 ∧ 0 ≤ n1 ∧ m' = n1.toNat ∧ (arr k t1 x n1).1 = (arr k t x n).1 ∧ l1 + (arr k t1 x n1).2 = (arr k t x n).2, fun σ' H' q => q, ?_⟩
    have ne : t1 ≠ [] := fun e => by
      have := c.2.2
      rw [e] at this
      simp at this
      omega
    refine ⟨_, rfl, d1, _, h1, trivial, fun od => ⟨_, rfl, d1, od, rfl, .inl ⟨_, upd_same, fun D hD => ?_⟩⟩⟩
    have hdD : D ≠ d1 := fun e => by rw [e, upd_same] at hD; cases hD
    have hDn : H1 D = none := by rw [← hD, upd_ne hdD]
    refine lc_M (C := 0) walk_keys t1 (fun p => p.2) IntV stb_int (kd_len t1).symm (by rw [kd_len]; exact Nat.le_trans tb1.len (by decide)) hD (fun H' s => s _ _ upd_same) (fun i p v H2 H3 F1 hi s y f1 => ?_) fun ys H2 s hy q => ?_
    · obtain ⟨rfl, k', v', ek, rfl⟩ := y
      obtain ⟨rfl, rfl⟩ := kd_at hi ek
      exact ⟨rfl, _, rfl, _, rfl, d1, _, rfl, dg (.inr ⟨od, s _ _ upd_same⟩) (lk_mem tb1.nd (List.mem_of_getElem? hi)), f1 _ _ (Same.refl _) rfl⟩
    · have s2 : Same H1 (upd H2 d1 (.dK (kd t1))) := sm_lock h1 s
      have ey : ys = (t1.map (·.2)).map V.int := pd_eq (h := V.int) q
      refine ⟨s _ _ upd_same, D, t1.map (·.2), rfl, SqL.of (by rw [upd_ne hdD, hy, ey]), by simpa [List.length_pos_iff] using ne, fun y hy1 hy2 => ⟨n1, y, rfl, ?_⟩⟩
      have em := mn_eq ne hy1 hy2
      have e1 : (if y < n1 then y else n1) = min n1 (mn t1) := by
        rw [em]
        split <;> omega
      rw [e1]
      have mp : 1 ≤ mn t1 := by
        obtain ⟨p, p1, p2⟩ := mn_mem ne
        have := tb1.ge p p1
        omega
      refine ⟨_, rfl, _, rfl, d1, t1, _, rfl, s2 _ _ h1, tb1.nd, Nat.le_trans tb1.len (by decide), fun e H3 s3 he h3 => ⟨_, rfl, _, rfl, _, _, rfl, rfl, _, rfl, _, rfl, _, _, rfl, rfl, by show 3 ≤ sizeLine; decide, fun q hq => ⟨q, _, rfl, .inl (.inl upd_same), rfl, _, _, rfl, _, _, rfl, _, _, rfl, rfl, ?_⟩⟩⟩
      have st := arr_step hk c
      rw [st] at r1 r2
      refine ⟨(n1 - min n1 (mn t1)).toNat, by omega, e, low t1 (min n1 (mn t1)), n1 - min n1 (mn t1), l1 + min n1 (mn t1), _, _, rfl, (s1.trans (s2.trans s3)).trans (sm_new hq), sm_new hq _ _ h3, tb1.low, by omega, rfl, r1, ?_⟩
      rw [← r2]
      show _ = l1 + (_ + _)
      omega
  · rw [decide_eq_false c]
    rw [arr_end c] at r1 r2
    refine iteF ⟨_, rfl, d1, _, rfl, .inl h1, fun p hp => ⟨_, rfl, n1, 0, rfl, rfl, _, rfl, ?_⟩⟩
    have s2 : Same H1 (upd H1 p (.dK (kd t1))) := sm_new hp
    have e2 : l1 = (arr k t x n).2 := by
      rw [← r2]
      exact (Int.add_zero _).symm
    by_cases c1 : 0 < n1
    · rw [decide_eq_true c1]
      rw [if_pos c1] at r1
      refine iteT ⟨_, rfl, p, rfl, .inl ⟨_, .inl upd_same⟩, _, rfl, _, dgo (.inl upd_same), _, rfl, _, _, getD_val _ _, rfl, _, rfl, _, rfl, p, _, rfl, DPut.k (k := .inr x) upd_same ?_, ?_⟩
      · rw [kd_len]
        exact small1000 (Nat.le_trans tb1.len (by decide))
      · rw [kd_put]
        refine ⟨_, rfl, _, rfl, by show 2 ≤ sizeLine; decide, fun q hq => fin p q _ ?_ ?_ ?_⟩
        · exact ((sm_mut (s1.trans s2) (s1.free hp)).trans (sm_new hq))
        · rw [upd_ne (ne_of_none upd_same hq), upd_same, ← r1]
          rfl
        · rw [upd_same, e2]
    · rw [decide_eq_false c1]
      rw [if_neg c1] at r1
      refine iteF ⟨_, rfl, _, rfl, by show 2 ≤ sizeLine; decide, fun q hq => fin p q _ ((s1.trans s2).trans (sm_new hq)) ?_ ?_⟩
      · rw [upd_ne (ne_of_none upd_same hq), upd_same, ← r1]
      · rw [upd_same, e2]
end
end Kx
set_option Elab.async false
set_option linter.all false
set_option maxRecDepth 100000
set_option maxHeartbeats 4000000
namespace Kx
open PySem PySem.Spec PyProof.Rows L2
/-! ### tables of at most k names -/
structure Tk (k : Nat) (t : Tab) : Prop where
  nd : (nms t).Nodup
  ge : ∀ p ∈ t, 1 ≤ p.2
  len : t.length ≤ k
theorem Tk.tb {k : Nat} {t : Tab} (h : Tk k t) (hk : k ≤ 60) : Tb t := ⟨h.nd, h.ge, Nat.le_trans h.len hk⟩
theorem nms_len (t : Tab) : (nms t).length = t.length := List.length_map _
theorem put_tk {k : Nat} {t : Tab} {x : Str} {n : Int} (h : Tk k t) (hn : 1 ≤ n) (hx : x ∈ nms t ∨ t.length < k) : Tk k (put t x n) := by
  refine ⟨put_nd h.nd, fun p hp => ?_, ?_⟩
  · rcases mem_put hp with z | z
    · exact h.ge p z
    · rw [z]
      exact hn
  · have e : (nms (put t x n)).length = (put t x n).length := nms_len _
    rw [nms_put] at e
    have hl := h.len
    by_cases m : x ∈ nms t
    · rw [if_pos m, nms_len] at e
      omega
    · rw [if_neg m, List.length_append, nms_len] at e
      have := hx.resolve_left m
      simp at e
      omega
theorem add_tk {k : Nat} {t : Tab} {x : Str} {n : Int} (h : Tk k t) (hn : 1 ≤ n) (hx : x ∈ nms t ∨ t.length < k) : Tk k (add t x n) := put_tk h (by have := val_ge (x := x) h.ge; omega) hx
theorem low_tk {k : Nat} {t : Tab} {s : Int} (h : Tk k t) : Tk k (low t s) := ⟨low_nd h.nd, fun p hp => by
  obtain ⟨q, h1, h2, rfl⟩ := low_mem.mp hp
  show 1 ≤ q.2 - s
  omega, Nat.le_trans low_len h.len⟩
theorem arr_tk {k : Nat} {t : Tab} {x : Str} {n : Int} (hk : 1 ≤ k) (h : Tk k t) (hn : 0 ≤ n) : Tk k (arr k t x n).1 := by
  by_cases c : 0 < n ∧ x ∉ nms t ∧ t.length = k
  · rw [arr, if_pos c]
    show Tk k (if _ then _ else _)
    have ne : t ≠ [] := fun e => by
      have := c.2.2
      rw [e] at this
      simp at this
      omega
    by_cases d : 0 < n - min n (mn t)
    · rw [if_pos d]
      obtain ⟨p, h1, h2⟩ := mn_mem ne
      exact add_tk (low_tk h) (by omega) (.inr (by have := low_lt (t := t) (s := min n (mn t)) ⟨p, h1, by omega⟩; have := c.2.2; omega))
    · rw [if_neg d]
      exact low_tk h
  · rw [arr_end c]
    show Tk k (if _ then _ else _)
    by_cases d : 0 < n
    · rw [if_pos d]
      refine add_tk h (by omega) ?_
      by_cases m : x ∈ nms t
      · exact .inl m
      · refine .inr ?_
        have := h.len
        have : t.length ≠ k := fun e => c ⟨d, m, e⟩
        omega
    · rw [if_neg d]
      exact h
/-- names come from somewhere -/
theorem arr_nms {k : Nat} {t : Tab} {x : Str} {n : Int} {y : Str} (h : y ∈ nms (arr k t x n).1) : y ∈ nms t ∨ y = x := by
  have a : ∀ {u : Tab} {m : Int}, y ∈ nms (add u x m) → y ∈ nms u ∨ y = x := fun {u m} q => by
    unfold add at q
    rw [nms_put] at q
    split at q
    · exact .inl q
    · rcases List.mem_append.mp q with z | z
      · exact .inl z
      · exact .inr (List.mem_singleton.mp z)
  unfold arr at h
  split at h
  · replace h : y ∈ nms (if _ then _ else _) := h
    split at h
    · exact (a h).imp (fun z => nms_low.subset z) id
    · exact .inl (nms_low.subset h)
  · replace h : y ∈ nms (if _ then _ else _) := h
    split at h
    · exact a h
    · exact .inl h
theorem play_snoc {k : Nat} {t : Tab} {rs : Tab} {r : Str × Int} : play k t (rs ++ [r]) = ((arr k (play k t rs).1 r.1 r.2).1, (play k t rs).2 + (arr k (play k t rs).1 r.1 r.2).2) := by
  unfold play
  rw [List.foldl_append]
  rfl
theorem play_tk {k : Nat} (hk : 1 ≤ k) : ∀ {rs t : Tab}, (∀ r ∈ rs, 1 ≤ r.2) → Tk k t → Tk k (play k t rs).1 := by
  have key : ∀ (rs : Tab) (a : Tab × Int), (∀ r ∈ rs, 1 ≤ r.2) → Tk k a.1 → Tk k (rs.foldl (fun a r => ((arr k a.1 r.1 r.2).1, a.2 + (arr k a.1 r.1 r.2).2)) a).1 := by
    intro rs
    induction rs with
    | nil => intro a _ h; exact h
    | cons r rs ih => exact fun a h1 h2 => ih _ (fun q hq => h1 q (List.mem_cons_of_mem _ hq)) (arr_tk hk h2 (by have := h1 r (List.mem_cons_self ..); omega))
  exact fun {rs t} h1 h2 => key rs (t, 0) h1 h2
section
variable {P : Program} {w : World} {K : PySem.W.Frag} {mg : Str → Option Value} {base : Heap}
def spPlayed : Sp := fun vs H Q _ => ∃ (k : Nat) (d : Addr) (t : Tab) (v : V) (rs : Tab), vs = [.int k, .ref d, v] ∧ H d = some (.dK (kd t)) ∧ Tk k t ∧ 1 ≤ k ∧ k ≤ 60 ∧ TupOf K (PrV K) H v rs ∧ (∀ r ∈ rs, 1 ≤ r.2) ∧
  ∀ e p H', Same H H' → H' e = some (.dK (kd (play k t rs).1)) → H' p = some (.tup [.ref e, .int (play k t rs).2]) → Q (.ref p) H'
theorem ok_played (T : Tx w K mg) : Fn1 P w K mg base 3 "played" ["capacity", "table", "runs"] [] (spPlayed (K := K)) := by
  refine T.E_played (fun vs H Q E h => ?_) (fun cdv A outer s H vs Q E hr h => ?_)
  · obtain ⟨_, _, _, _, _, rfl, _⟩ := h
    rfl
  obtain ⟨k, d, t, v, rs, rfl, hd, tk, hk, hk2, ⟨a, xs, rfl, ha, hp⟩, hrs, fin⟩ := h
  have hl := pd_len hp
  refine ⟨_, pss_cons (ps_set (i := 3) sc_played.nd rfl (Or.inl rfl) pe_int)
    (pss_cons (ps_for PassesOwn.never rfl (pi_tup (pv 2)) (pg_tup rfl (pgs_cons (pg_name (i := 4) sc_played.nd rfl (Or.inl rfl)) (pgs_cons (pg_name (i := 5) sc_played.nd rfl (Or.inl rfl)) pgs_nil)))
      (pss_cons (ps_asg (pe_f (ok_arrived T) hr (pa_cons (pv 0) (pa_cons (pv 1) (pa_cons (pv 4) (pa_cons (pv 5) pa_nil))))) (pg_tup rfl (pgs_cons (pg_name (i := 1) sc_played.nd rfl (Or.inl rfl)) (pgs_cons (pg_name (i := 6) sc_played.nd rfl (Or.inl rfl)) pgs_nil))))
      (pss_one (ps_aug (i := 3) sc_played.nd rfl (Or.inl rfl) (pv 6) ip_add))))
    (pss_one (ps_ret (pe_tup (pa_cons (pv 1) (pa_cons (pv 3) pa_nil)))))), ?_⟩
  refine ⟨_, rfl, a, rfl, ⟨xs, ha⟩, ?_⟩
  refine for_it walk_tup (fun i σ H' => Same H H' ∧ ∃ e x y z, σ = [some (.int k), some (.ref e), some (.ref a), some (.int (play k t (rs.take i)).2), x, y, z] ∧ H' e = some (.dK (kd (play k t (rs.take i)).1))) ⟨Same.refl _, d, none, none, none, rfl, hd⟩ (fun i σ H' _ p => st_sm p.1 ha) (fun i x σ H1 H2 hi p y => ?_) fun σ H1 p => ?_
  · obtain ⟨s1, e, x0, y0, z0, rfl, h1⟩ := p
    obtain ⟨rfl, ex⟩ := y
    obtain ⟨q, eq, b, rfl, hb⟩ := pd_get hp ex
    have et : rs.take (i + 1) = rs.take i ++ [q] := by
      rw [List.take_succ, eq]
      rfl
    have sub : ∀ r ∈ rs.take i, 1 ≤ r.2 := fun r h => hrs r (List.mem_of_mem_take h)
    refine ⟨b, _, rfl, st_sm s1 hb, rfl, _, _, rfl, _, _, rfl, rfl, ?_⟩
    refine ⟨_, rfl, _, rfl, _, rfl, _, rfl, k, e, _, q.1, q.2, rfl, h1, (play_tk hk sub tk).tb hk2, hk, hrs q (List.mem_of_getElem? eq), fun e2 p H3 s3 h3 h4 => ⟨p, _, rfl, .inl (.inl h4), rfl, _, _, rfl, _, _, rfl, rfl, ?_⟩⟩
    refine ⟨_, rfl, _, rfl, _, _, rfl, rfl, s1.trans s3, e2, some (.str q.1), some (.int q.2), some (.int (arr k (play k t (rs.take i)).1 q.1 q.2).2), ?_, ?_⟩
    · rw [et, play_snoc]
      rfl
    · rw [et, play_snoc]
      exact h3
  · obtain ⟨s1, e, x0, y0, z0, rfl, h1⟩ := p
    rw [hl, List.take_length] at h1 ⊢
    exact ⟨_, rfl, _, rfl, by show 2 ≤ sizeLine; decide, fun p hp => fin e p _ (s1.trans (sm_new hp)) (sm_new hp _ _ h1) upd_same⟩
/-! ### texts -/
theorem cnt_len {p : Str × Int} (h1 : p.1.length < 9) (h2 : Small p.2) : (cnt p).length ≤ 1931 := by
  have e : (cnt p).length = 0 + p.1.length + 1 + (Str.ofString (toString p.2)).length := by
    unfold cnt
    rw [PySem.Str.length_append, PySem.Str.length_append, PySem.Str.length_append]
    rfl
  have := PyProof.Rows.int_text_len_1921 h2
  omega
theorem sum_cnt : ∀ {t : List (Str × Int)}, (∀ p ∈ t, p.1.length < 9) → (∀ p ∈ t, Small p.2) → ((t.map cnt).map (·.length)).sum ≤ 1931 * t.length
  | [], _, _ => by simp
  | p :: r, h1, h2 => by
    have a := cnt_len (h1 p (List.mem_cons_self ..)) (h2 p (List.mem_cons_self ..))
    have b := sum_cnt (t := r) (fun q hq => h1 q (List.mem_cons_of_mem _ hq)) (fun q hq => h2 q (List.mem_cons_of_mem _ hq))
    rw [List.map_cons, List.map_cons, List.sum_cons, List.length_cons]
    omega
theorem txt_len {t : Tab} (h1 : ∀ p ∈ t, p.1.length < 9) (h2 : Sml t) (h3 : t.length ≤ 60) : (txt t).length ≤ 600000 := by
  unfold txt
  split
  · decide
  · have hs := sum_cnt h1 h2
    have wg : Weighs (t.map cnt) (1932 * t.length) := by
      unfold Weighs
      rw [List.length_map]
      omega
    have := len_join_le (sep := " ") wg (by decide)
    omega
def spText : Sp := fun vs H Q _ => ∃ (v : V) (t : Tab), vs = [v] ∧ TupOf K (PrV K) H v t ∧ (∀ p ∈ t, p.1.length < 9) ∧ Sml t ∧ t.length ≤ 60 ∧ ∀ H', Same H H' → Q (.str (txt t)) H'
theorem ok_counts_text (T : Tx w K mg) : Fn1 P w K mg base 1 "counts_text" ["counts"] [] (spText (K := K)) := by
  refine T.E_counts_text (fun vs H Q E h => ?_) (fun cdv A outer s H vs Q E hr h => ?_)
  · obtain ⟨_, _, rfl, _⟩ := h
    rfl
  obtain ⟨v, t, rfl, ⟨a, xs, rfl, ha, hp⟩, hn, hsm, hz, fin⟩ := h
  have hl := pd_len hp
  refine ⟨_, pss_one (ps_ret (pe_orT (pe_join pe_str (pe_lc (own := [("name", 1), ("count", 2)]) (g := gTup K 2 (gCons (gName 1) (gCons (gName 2) gNil))) (tt := tYes) rfl sc_counts_text.nd (pi_tup (pv 0)) (blkOk_by (N := n_counts_text) (sc := defScope s_counts_text) (by decide +kernel))
    (fun _ _ _ _ _ => pg_tup rfl (pgs_cons (pg_name (i := 1) sc_counts_text.nd rfl (Or.inl rfl)) (pgs_cons (pg_name (i := 2) sc_counts_text.nd rfl (Or.inl rfl)) pgs_nil))) (fun _ _ _ _ _ => pts_nil)
    (fun _ _ _ _ _ => pe_joined (.cons (pe_fmt (pv 1)) (.cons pe_str (.cons (pe_fmt (pv 2)) .nil)))))) (pe_one pe_str))), ?_⟩
  refine ⟨⟨_, rfl⟩, _, rfl, a, rfl, ⟨xs, ha⟩, fun D hD => ?_⟩
  refine lc_M (C := 0) (te := fun σ H Q => tJs [tFmt (tVar 1), tC (.str ":"), tFmt (tVar 2)] Str.empty σ H fun out H1 => Q (.str out) H1) walk_tup t cnt (fun _ v y => v = .str y) ⟨fun _ h => h⟩ hl.symm (by omega) hD (fun H' s => st_sm s ha) (fun i p v H1 H2 F1 hi s y f1 => ?_) fun ys H1 s hy q => ?_
  · obtain ⟨rfl, ex⟩ := y
    obtain ⟨q, eq, b, rfl, hb⟩ := pd_get hp ex
    rw [hi] at eq
    cases eq
    have hpm := List.mem_of_getElem? hi
    have k1 := hn p hpm
    have k2 := hsm p hpm
    have k3 := PyProof.Rows.int_text_len_1921 k2
    have z : sizeLine = 16777216 := sizeLine_eq
    refine ⟨b, _, rfl, st_sm s hb, rfl, _, _, rfl, _, _, rfl, rfl, rfl, _, rfl, .inl ⟨p.1, rfl, by omega, _, rfl, ?_, _, rfl, ?_, _, rfl, .inr ⟨p.2, rfl, k2, _, rfl, ?_, f1 _ _ (Same.refl _) rfl⟩⟩⟩
    · rw [PySem.Str.length_append]
      show 0 + p.1.length ≤ sizeLine
      omega
    · rw [PySem.Str.length_append, PySem.Str.length_append]
      show 0 + p.1.length + 1 ≤ sizeLine
      omega
    · exact Nat.le_trans (cnt_len k1 k2) (by rw [z]; decide)
  · have ey : ys = (t.map cnt).map V.str := pd_eq (h := V.str) q
    have hs := sum_cnt hn hsm
    refine ⟨" ", D, t.map cnt, rfl, rfl, .inl (SqL.of (ey ▸ hy)), ?_, ?_⟩
    · rw [List.length_map]
      show _ + t.length * 1 ≤ _
      omega
    · have e : t = [] ∨ t ≠ [] := by
        cases t <;> simp
      rcases e with rfl | ne
      · exact ⟨false, ⟨by decide, rfl⟩, iteF (fin _ s)⟩
      · have et : txt t = Txt.join " " (t.map cnt) := by
          unfold txt
          rw [if_neg ne]
        have tl := txt_len hn hsm hz
        rw [et] at tl
        refine ⟨true, ⟨Nat.le_trans tl (by rw [sizeLine_eq]; decide), ?_⟩, iteT ?_⟩
        · have ge := len_join_ge_sum " " (t.map cnt)
          have pos : 0 < ((t.map cnt).map (·.length)).sum := by
            cases t with
            | nil => exact absurd rfl ne
            | cons p r =>
              have : 0 < (cnt p).length := by
                unfold cnt
                rw [PySem.Str.length_append, PySem.Str.length_append]
                show 0 < _ + 1 + _
                omega
              simp only [List.map_cons, List.sum_cons]
              omega
          have : (((Txt.join " " (t.map cnt)).length : Int) != 0) = true := by
            simp
            omega
          exact this.symm
        · rw [← et]
          exact fin _ s
end
end Kx
set_option Elab.async false
set_option linter.all false
set_option maxRecDepth 100000
set_option maxHeartbeats 4000000
namespace Kx
open PySem PySem.Spec PyProof.Rows L2
/-! ### counts in order -/
theorem val_filter {t : Tab} (nd : (nms t).Nodup) (f : Str × Int → Bool) {x : Str} (h : x ∈ nms (t.filter f)) : val (t.filter f) x = val t x := by
  obtain ⟨p, h1, rfl⟩ := List.mem_map.mp h
  have sb : (nms (t.filter f)).Sublist (nms t) := (List.filter_sublist (l := t) (p := f)).map (·.1)
  rw [val_mem (sb.nodup nd) h1, val_mem nd (List.mem_filter.mp h1).1]
def pos (t : Tab) : Tab := t.filter fun p => decide (0 < p.2)
theorem flatP_eq {t : Tab} (nd : (nms t).Nodup) : flatP t = flat (pos t) := by
  have pf : ((nms t).filter fun x => decide (0 < val t x)) = nms (pos t) := by
    unfold pos nms
    rw [List.filter_map]
    congr 1
    refine List.filter_congr fun p hp => ?_
    show decide (0 < val t p.1) = _
    rw [val_mem nd hp]
  have e : (srtN (nms t)).filter (fun x => decide (0 < val t x)) = srtN (nms (pos t)) := by
    refine pw_eq ((srtN_pw _).filter _) (srtN_pw _) (((srtN_perm _).filter _).trans ?_)
    rw [pf]
    exact (srtN_perm _).symm
  unfold flatP flat
  rw [e]
  refine List.map_congr_left fun x hx => ?_
  rw [pos, val_filter nd _ (mem_srtN.mp hx)]
theorem pos_id {t : Tab} (h : ∀ p ∈ t, 1 ≤ p.2) : pos t = t := List.filter_eq_self.mpr fun p hp => decide_eq_true (by have := h p hp; omega)
theorem flatP_flat {t : Tab} (nd : (nms t).Nodup) (h : ∀ p ∈ t, 1 ≤ p.2) : flatP t = flat t := by rw [flatP_eq nd, pos_id h]
theorem nms_flat (t : Tab) : nms (flat t) = srtN (nms t) := by
  unfold flat nms
  rw [List.map_map]
  exact List.map_id _
theorem asc_nd {l : List Str} (h : l.Pairwise fun a b => a.cps.toList < b.cps.toList) : l.Nodup := h.imp fun {a b} q e => absurd (e ▸ q) (List.lt_irrefl _)
theorem lt_of_leN {a b : Str} (h : leN a b = true) (n : a ≠ b) : a.cps.toList < b.cps.toList := by
  cases Decidable.em (a.cps.toList < b.cps.toList) with
  | inl q => exact q
  | inr q => exact absurd (leN_anti h (leN_iff.mpr (List.not_lt.mp q))) n
theorem flat_mem {t : Tab} (nd : (nms t).Nodup) {p : Str × Int} : p ∈ flat t ↔ p ∈ t := by
  unfold flat
  rw [List.mem_map]
  constructor
  · rintro ⟨x, hx, rfl⟩
    obtain ⟨q, h1, h2⟩ := List.mem_map.mp (mem_srtN.mp hx)
    rw [← h2, val_mem nd h1]
    exact h1
  · intro h
    exact ⟨p.1, mem_srtN.mpr (List.mem_map_of_mem (f := (·.1)) h), by rw [val_mem nd h]⟩
theorem flat_len (t : Tab) : (flat t).length = t.length := by
  unfold flat
  rw [List.length_map, srtN_len, nms_len]
theorem flat_asc {t : Tab} (nd : (nms t).Nodup) : (nms (flat t)).Pairwise fun a b => a.cps.toList < b.cps.toList := by
  rw [nms_flat]
  have a := srtN_pw (nms t)
  have b : (srtN (nms t)).Nodup := (srtN_perm _).nodup_iff.mpr nd
  exact (a.and b).imp fun q => lt_of_leN q.1 q.2
theorem flat_cn {k : Nat} {t : Tab} (h : Tk k t) (hn : ∀ p ∈ t, IsNm p.1) : Cn k (flat t) :=
  ⟨flat_asc h.nd, fun p hp => hn p ((flat_mem h.nd).mp hp), fun p hp => h.ge p ((flat_mem h.nd).mp hp), by rw [flat_len]; exact h.len⟩
theorem Cn.tk {k : Nat} {t : Tab} (h : Cn k t) : Tk k t := ⟨asc_nd h.asc, h.ge, h.len⟩
theorem asc_leN {l : List Str} (h : l.Pairwise fun a b => a.cps.toList < b.cps.toList) : l.Pairwise fun a b => leN a b = true := h.imp fun q => leN_iff.mpr (List.le_of_lt q)
/-- what is in order stays -/
theorem flat_id {t : Tab} (h : (nms t).Pairwise fun a b => a.cps.toList < b.cps.toList) : flat t = t := by
  unfold flat
  rw [srtN_id (asc_leN h), nms, List.map_map]
  have e : t = t.map id := (List.map_id t).symm
  conv => rhs; rw [e]
  refine List.map_congr_left fun p hp => ?_
  show (p.1, val t p.1) = p
  rw [val_mem (asc_nd h) hp]
theorem tab_id {l : Tab} (h : (nms l).Nodup) : tab l = l := by
  have key : ∀ (r t : Tab), (nms (t ++ r)).Nodup → r.foldl (fun t p => add t p.1 p.2) t = t ++ r := by
    intro r
    induction r with
    | nil => intro t _; simp
    | cons p r ih =>
      intro t nd
      have h0 : p.1 ∉ nms t := by
        rw [nms, List.map_append, List.nodup_append] at nd
        intro m
        exact nd.2.2 _ m _ (by simp) rfl
      rw [List.foldl_cons, add, put_fresh h0, val_fresh h0, ih _ (by simpa [nms] using nd)]
      simp
  exact key l [] (by simpa using h)
theorem tab_nd (l : Tab) : (nms (tab l)).Nodup := by
  have key : ∀ (r t : Tab), (nms t).Nodup → (nms (r.foldl (fun t p => add t p.1 p.2) t)).Nodup := by
    intro r
    induction r with
    | nil => exact fun t h => h
    | cons p r ih => exact fun t h => ih _ (put_nd h)
  exact key l [] List.nodup_nil
theorem tab_nm (l : Tab) {x : Str} : x ∈ nms (tab l) → x ∈ nms l := by
  have key : ∀ (r t : Tab), x ∈ nms (r.foldl (fun t p => add t p.1 p.2) t) → x ∈ nms t ∨ x ∈ nms r := by
    intro r
    induction r with
    | nil => exact fun t h => .inl h
    | cons p r ih =>
      intro t h
      rcases ih _ h with z | z
      · unfold add at z
        rw [nms_put] at z
        split at z
        · exact .inl z
        · rcases List.mem_append.mp z with z | z
          · exact .inl z
          · exact .inr (List.mem_singleton.mp z ▸ List.mem_cons_self ..)
      · exact .inr (List.mem_cons_of_mem _ z)
  exact fun h => (key l [] h).resolve_left (by simp [nms])
/-! ### merging -/
def geI (a b : Int) : Bool := decide (b ≤ a)
def rk (t : Tab) : List Int := (t.map (·.2)).mergeSort geI
theorem rk_perm (t : Tab) : (rk t).Perm (t.map (·.2)) := List.mergeSort_perm _ _
theorem rk_pw (t : Tab) : (rk t).Pairwise fun a b => b ≤ a := (List.pairwise_mergeSort (le := geI) (fun a b c h1 h2 => by
  unfold geI at *
  simp at *
  omega) (fun a b => by
  unfold geI
  simp
  omega) _).imp fun h => of_decide_eq_true h
theorem pwI_eq : ∀ {l m : List Int}, l.Pairwise (fun a b => b ≤ a) → m.Pairwise (fun a b => b ≤ a) → l.Perm m → l = m
  | [], m, _, _, p => (List.nil_perm.mp p).symm
  | a :: l, [], _, _, p => absurd p.length_eq (by simp)
  | a :: l, b :: m, h1, h2, p => by
    have e : a = b := by
      rw [List.pairwise_cons] at h1 h2
      have ma : a ∈ b :: m := p.mem_iff.mp (List.mem_cons_self ..)
      have mb : b ∈ a :: l := p.mem_iff.mpr (List.mem_cons_self ..)
      rcases List.mem_cons.mp ma with q | q
      · exact q
      · rcases List.mem_cons.mp mb with r | r
        · exact r.symm
        · have := h1.1 b r
          have := h2.1 a q
          omega
    subst e
    rw [pwI_eq (List.Pairwise.of_cons h1) (List.Pairwise.of_cons h2) ((List.perm_cons a).mp p)]
theorem rk_len (t : Tab) : (rk t).length = t.length := by rw [(rk_perm t).length_eq, List.length_map]
def cut (k : Nat) (t : Tab) : Int := if k < t.length then (rk t).getD k 0 else 0
def less (t : Tab) (c : Int) : Tab := t.map fun p => (p.1, p.2 - c)
def mrg (k : Nat) (a b : Tab) : Tab := flatP (less (tab (a ++ b)) (cut k (tab (a ++ b))))
theorem nms_less (t : Tab) (c : Int) : nms (less t c) = nms t := by
  unfold less nms
  rw [List.map_map]
  rfl
theorem few_above : ∀ {l : List Int} (k : Nat), l.Pairwise (fun a b => b ≤ a) → k < l.length → (l.filter fun x => decide (l.getD k 0 < x)).length ≤ k := by
  intro l k h hk
  have e : l = l.take k ++ l.drop k := (List.take_append_drop k l).symm
  have g : l.getD k 0 = l[k] := by simp [hk]
  have z : (l.drop k).filter (fun x => decide (l.getD k 0 < x)) = [] := by
    rw [List.filter_eq_nil_iff]
    intro x hx
    obtain ⟨i, hi, rfl⟩ := List.getElem_of_mem hx
    rw [List.getElem_drop, g, decide_eq_true_eq]
    rw [List.length_drop] at hi
    rcases Nat.eq_zero_or_pos i with h0 | h0
    · subst h0
      simp
    · have := List.pairwise_iff_getElem.mp h k (k + i) hk (by omega) (by omega)
      omega
  have : (l.filter fun x => decide (l.getD k 0 < x)) = (l.take k).filter (fun x => decide (l.getD k 0 < x)) := by
    conv => lhs; arg 2; rw [e]
    rw [List.filter_append, z, List.append_nil]
  rw [this]
  exact Nat.le_trans (List.length_filter_le ..) (List.length_take_le ..)
theorem above_cut {k : Nat} {t : Tab} : (t.filter fun p => decide (cut k t < p.2)).length ≤ k ∨ cut k t = 0 ∧ t.length ≤ k := by
  unfold cut
  by_cases h : k < t.length
  · left
    rw [if_pos h]
    have a := few_above k (rk_pw t) (by rw [rk_len]; exact h)
    have b := ((rk_perm t).filter fun x => decide ((rk t).getD k 0 < x)).length_eq
    rw [b, List.filter_map, List.length_map] at a
    exact a
  · rw [if_neg h]
    exact .inr ⟨rfl, by omega⟩
theorem pos_less (t : Tab) (c : Int) : pos (less t c) = low t c := by
  unfold pos less low
  rw [List.filter_map]
  congr 1
  refine List.filter_congr fun p _ => ?_
  show decide (0 < p.2 - c) = decide (c < p.2)
  exact decide_eq_decide.mpr ⟨fun h => by omega, fun h => by omega⟩
theorem mrg_low {k : Nat} {a b : Tab} : mrg k a b = flat (low (tab (a ++ b)) (cut k (tab (a ++ b)))) := by
  unfold mrg
  rw [flatP_eq (by rw [nms_less]; exact tab_nd _), pos_less]
theorem low_lenk {k : Nat} {t : Tab} : (low t (cut k t)).length ≤ k := by
  unfold low
  rw [List.length_map]
  rcases above_cut (k := k) (t := t) with h | ⟨_, h⟩
  · exact h
  · exact Nat.le_trans (List.length_filter_le ..) h
theorem mrg_cn {k : Nat} {a b : Tab} (ha : ∀ p ∈ a, IsNm p.1) (hb : ∀ p ∈ b, IsNm p.1) : Cn k (mrg k a b) := by
  rw [mrg_low]
  refine flat_cn ⟨low_nd (tab_nd _), fun p hp => ?_, low_lenk⟩ fun p hp => ?_
  · obtain ⟨q, h1, h2, rfl⟩ := low_mem.mp hp
    show 1 ≤ q.2 - _
    omega
  · obtain ⟨q, h1, h2, rfl⟩ := low_mem.mp hp
    obtain ⟨r, r1, r2⟩ := List.mem_map.mp (tab_nm _ (List.mem_map_of_mem (f := (·.1)) h1))
    show IsNm q.1
    rw [← r2]
    rcases List.mem_append.mp r1 with z | z
    · exact ha r z
    · exact hb r z
end Kx
set_option Elab.async false
set_option linter.all false
set_option maxRecDepth 100000
set_option maxHeartbeats 4000000
namespace Kx
open PySem PySem.Spec PyProof.Rows L2
section
variable {P : Program} {w : World} {K : PySem.W.Frag} {mg : Str → Option Value} {base : Heap}
theorem Tx.apart (T : Tx w K mg) : CS K ≠ CC K := fun e => by
  obtain ⟨fd, F⟩ := T.D_Summary___len__
  obtain ⟨fd', F'⟩ := T.D_Collector___len__
  obtain ⟨oc, od, dV, kV, doc, pm, an, cdv, ct, osl, rfl, lk, _, _, _⟩ := F.ex
  obtain ⟨oc', od', dV', kV', doc', pm', an', cdv', ct', osl', rfl, lk', _, _, _⟩ := F'.ex
  rw [show He.ga K "Summary" = He.ga K "Collector" from e, lk'] at lk
  have h := congrArg Obj.data (Option.some.inj lk)
  simp only at h
  have h2 := Data.func.inj h
  have h3 := congrArg FuncData.qualname h2
  exact absurd (show ("Collector.__len__" : Str) = "Summary.__len__" from h3) (by decide +kernel)
/-- a summary of k places with these counts -/
def SumV (K : PySem.W.Frag) (H : Hp) (v : V) (q : Nat × Tab) : Prop := ∃ p dx c, v = .ref p ∧ H p = some (.ins (CS K) dx [("capacity", .int q.1), ("counts", c)]) ∧ TupOf K (PrV K) H c q.2
theorem stb_sum (T : Tx w K mg) : Stb (CC K) (SumV K) := ⟨fun s ⟨p, dx, c, e, h, g⟩ => ⟨p, dx, c, e, s _ _ h (show CS K ≠ CC K from T.apart), (stb_tup stb_pr).tv s g⟩⟩
theorem sum_same {H H' : Hp} {v : V} {q : Nat × Tab} (s : Same H H') : SumV K H v q → SumV K H' v q := fun ⟨p, dx, c, e, h, g⟩ => ⟨p, dx, c, e, s _ _ h, (stb_tup (C := 0) stb_pr).sm s g⟩
theorem tup_same {α : Type} {R : Hp → V → α → Prop} {H H' : Hp} {v : V} {l : List α} (hR : ∀ x y, R H x y → R H' x y) (s : Same H H') : TupOf K R H v l → TupOf K R H' v l := fun ⟨a, xs, e, h, p⟩ => ⟨a, xs, e, st_sm s h, pd_imp hR p⟩
theorem prs_same {H H' : Hp} {v : V} {l : Tab} (s : Same H H') : TupOf K (PrV K) H v l → TupOf K (PrV K) H' v l := (stb_tup (C := 0) stb_pr).sm s
theorem lk_cc {a b : V} : ([("capacity", a), ("counts", b)] : List (Str × V)).lookup ("counts" : Str) = some b := by
  rw [List.lookup_cons, show (("counts" : Str) == "capacity") = false by decide +kernel, List.lookup_cons, show (("counts" : Str) == "counts") = true by decide +kernel]
theorem lk_c0 {a b : V} : ([("capacity", a), ("counts", b)] : List (Str × V)).lookup ("capacity" : Str) = some a := by
  rw [List.lookup_cons, show (("capacity" : Str) == "capacity") = true by decide +kernel]
/-- not one of these names -/
def notIn (m : Str) (l : List Str) : Bool := l.all fun x => !(m == x)
theorem lk_no {m : Str} : ∀ {fs : List (Str × V)}, notIn m (fs.map (·.1)) = true → fs.lookup m = none
  | [], _ => rfl
  | (f, v) :: r, h => by
    unfold notIn at h
    rw [List.map_cons, List.all_cons, Bool.and_eq_true] at h
    rw [List.lookup_cons]
    have h1 : (m == f) = false := by simpa using h.1
    rw [h1]
    exact lk_no h.2
def spSInit : Sp := fun vs H Q _ => ∃ (p dx : Addr) (k : Nat) (c : V) (t : Tab), vs = [.ref p, .int k, c] ∧ H p = some (.ins (CS K) dx []) ∧ 1 ≤ k ∧ k ≤ 8 ∧ TupOf K (PrV K) H c t ∧ Cn k t ∧
  ∀ H', But p H H' → H' p = some (.ins (CS K) dx [("capacity", .int k), ("counts", c)]) → Q .non H'
theorem putF_new {f : Str} {v : V} : ∀ {fs : List (Str × V)}, notIn f (fs.map (·.1)) = true → putF f v fs = fs ++ [(f, v)]
  | [], _ => rfl
  | (g, x) :: r, h => by
    unfold notIn at h
    rw [List.map_cons, List.all_cons, Bool.and_eq_true] at h
    have h1 : (f == g) = false := by simpa using h.1
    unfold putF
    rw [if_neg fun e => by rw [e] at h1; simp at h1, putF_new h.2]
    rfl
theorem ok_SInit (T : Tx w K mg) : ∃ fd, FnOk P w K mg base CX0 5 (He.ma K (He.ga K "Summary") "__init__") fd ["self", "capacity", "counts"] (spSInit (K := K)) ∧ FunD K "__init__" "Summary.__init__" (defArgs s_Summary___init__) (defBody s_Summary___init__) (defScope s_Summary___init__) (([.adr (He.dflAt ("Summary", some "__init__") 0)] : List He.Dv).map (He.Dv.v K)) (([] : List (Str × He.Dv)).map fun q => (q.1, q.2.v K)) (He.ma K (He.ga K "Summary") "__init__") fd := by
  refine T.G_Summary___init__ (fun vs H Q E h => ?_) (fun cdv A outer s H vs Q E hr h => ?_)
  · obtain ⟨_, _, _, _, _, rfl, _⟩ := h
    rfl
  obtain ⟨p, dx, k, c, t, rfl, hp, h1, h2, hc, cn, fin⟩ := h
  obtain ⟨a, xs, rfl, ha, hq⟩ := id hc
  refine ⟨_, pss_cons (ps_expr (pe_f (ok_check_capacity T) hr (pa_cons (pv 1) pa_nil)))
    (pss_cons (ps_if (pt_not (pt_val (pe_callB call_isi rfl T.b_isinstance bt_isi (pa_cons (pv 2) (pa_cons (pe_bltn (v := .ty "tuple") rfl T.b_tuple bt_tuple rfl) pa_nil))))) pss_never pss_nil)
    (pss_cons (ps_set (i := 3) sc_Summary___init__.nd rfl (Or.inl rfl) (pe_f (ok_first_invalid T) hr (pa_cons (pv 2) (pa_cons (pv 1) pa_nil))))
    (pss_cons (ps_if (pt_cmp (pc_notN (pv 3))) pss_never pss_nil)
    (pss_cons (ps_fld (pv 0) (pv 1) rfl) (pss_one (ps_fld (pv 0) (pv 2) rfl)))))), ?_⟩
  refine ⟨_, rfl, k, rfl, by omega, by omega, _, rfl, _, _, _, _, true, rfl, .ty "tuple", ty_tup ha, kit_ty (by decide +kernel), true, rfl, iteF ?_⟩
  refine ⟨_, rfl, _, rfl, _, k, t, rfl, hc, cn, by omega, fun H1 s1 => ⟨_, rfl, false, rfl, iteF ?_⟩⟩
  have hp1 := s1 _ _ hp
  refine ⟨_, rfl, _, rfl, p, _, dx, _, rfl, hp1, T.c_Summary, T.n_Summary_capacity, by decide, _, rfl, _, rfl, p, _, dx, _, rfl, upd_same, T.c_Summary, T.n_Summary_counts, by show 1 < 1000; decide, fin _ ?_ ?_⟩
  · exact ((sm_bt s1).tr bt_upd).tr bt_upd
  · rw [upd_same, putF_new (fs := []) rfl, putF_new (show notIn "counts" ["capacity"] = true by decide +kernel)]
    rfl
theorem mk_S2 (T : Tx w K mg) : Mk1 P w K mg base 5 "Summary" (CS K) ["self", "capacity", "counts"] [] (spSInit (K := K)) := by
  obtain ⟨fd, F, D⟩ := ok_SInit (P := P) (base := base) T
  obtain ⟨ds, h1, h2⟩ := D.binds1 (ps := ["self", "capacity", "counts"]) 3 1 (by simp) rfl (fun _ _ _ _ _ _ _ us its hl h2 => match us, its, hl, h2 with | [_, _, _], [_], _, _ => ⟨_, rfl, rfl⟩)
  exact ⟨_, fd, ds, F, T.m_Summary, T.mk_Summary, h2, h1⟩
theorem mk_S1 (T : Tx w K mg) : Mk1 P w K mg base 5 "Summary" (CS K) ["self", "capacity", "counts"] [.ref (He.dflAt ("Summary", some "__init__") 0 K)] (spSInit (K := K)) := by
  obtain ⟨fd, F, D⟩ := ok_SInit (P := P) (base := base) T
  obtain ⟨ds, h1, h2⟩ := D.binds1 (ps := ["self", "capacity", "counts"]) 2 0 (by simp) rfl (fun _ _ _ _ _ _ _ us its hl h2 => match us, its, hl, h2 with | [_, _], [_], _, _ => ⟨_, rfl, rfl⟩)
  exact ⟨_, fd, ds, F, T.m_Summary, T.mk_Summary, h2, h1⟩
theorem empty_tup (T : Tx w K mg) {H : Hp} : TupOf K (PrV K) H (.ref (He.dflAt ("Summary", some "__init__") 0 K)) [] := by
  obtain ⟨dd, its, n, sl, h, rfl⟩ := T.x_empty
  exact ⟨_, [], rfl, .inr ⟨_, #[], n, h, rfl, rfl, Nat.zero_le _, .nil⟩, .nil⟩
/-- making one, told by what comes of it -/
theorem made_S (T : Tx w K mg) {H : Hp} {k : Nat} {c : V} {t : Tab} {Q : VK} (h1 : 1 ≤ k) (h2 : k ≤ 8) (hc : TupOf K (PrV K) H c t) (cn : Cn k t) (q : ∀ v H', Same H H' → SumV K H' v (k, t) → Q v H') :
    ∀ x dx, H x = none → H dx = none → dx ≠ x → spSInit (K := K) (.ref x :: ([.int k, c] ++ [])) (upd (upd H dx (.own x)) x (.ins (CS K) dx [])) (fun v H2 => v = .non ∧ Q (.ref x) H2) E0 := by
  intro x dx hx hdx hne
  have s0 : Same H (upd (upd H dx (.own x)) x (.ins (CS K) dx [])) := Same.trans (sm_new hdx) (sm_new (by rw [upd_ne hne.symm]; exact hx))
  refine ⟨x, dx, k, c, t, rfl, upd_same, h1, h2, prs_same s0 hc, cn, fun H' b h => ⟨rfl, ?_⟩⟩
  have s1 : Same H H' := fun y o e => b y o (s0 y o e) (ne_of_none e hx)
  exact q _ _ s1 ⟨x, dx, c, rfl, h, prs_same s1 hc⟩
end
end Kx
set_option Elab.async false
set_option linter.all false
set_option maxRecDepth 100000
set_option maxHeartbeats 4000000
namespace Kx
open PySem PySem.Spec PyProof.Rows L2
/-- an entry: a run, a summary's counts -/
inductive Row where
  | run (x : Str) (n : Int)
  | sum (t : Tab)
def Row.isS : Row → Bool
  | .run _ _ => false
  | .sum _ => true
def RowV (K : PySem.W.Frag) (k : Nat) (H : Hp) (v : V) : Row → Prop
  | .run x n => PrV K H v (x, n)
  | .sum t => SumV K H v (k, t)
section
variable {P : Program} {w : World} {K : PySem.W.Frag} {mg : Str → Option Value} {base : Heap}
theorem stb_row (T : Tx w K mg) {k : Nat} : Stb (CC K) (RowV K k) := ⟨fun {H H' v x} s h => match x, h with
  | .run _ _, h => stb_pr.tv s h
  | .sum _, h => (stb_sum T).tv s h⟩
theorem row_same {k : Nat} {H H' : Hp} {v : V} {r : Row} (s : Same H H') (h : RowV K k H v r) : RowV K k H' v r := match r, h with
  | .run _ _, h => stb_pr.sm (C := 0) s h
  | .sum _, h => sum_same s h
theorem ty_sum (T : Tx w K mg) {H : Hp} {v : V} {q : Nat × Tab} (h : SumV K H v q) : TyX K H v (.ref (CS K)) := by
  obtain ⟨p, dx, c, rfl, h, _⟩ := h
  exact .base (.ins h T.c_Summary T.x_S_cls (by rfl) (by rfl) T.x_S_mro)
def spIsSum : Sp := fun vs H Q _ => ∃ (v : V) (k : Nat) (r : Row), vs = [v] ∧ RowV K k H v r ∧ Q (.bl r.isS) H
theorem ok_is_summary (T : Tx w K mg) : Fn1 P w K mg base 1 "is_summary" ["thing"] [] (spIsSum (K := K)) := by
  refine T.E_is_summary (fun vs H Q E h => ?_) (fun cdv A outer s H vs Q E hr h => ?_)
  · obtain ⟨_, _, _, rfl, _⟩ := h
    rfl
  obtain ⟨v, k, r, rfl, h, fin⟩ := h
  refine ⟨_, pss_one (ps_ret (pe_callB call_isi rfl T.b_isinstance bt_isi (pa_cons (pv 0) (pa_cons (pe_glob (v := .ref (CS K)) (by rfl) T.m_Summary rfl) pa_nil)))), ?_⟩
  cases r with
  | run x n =>
    obtain ⟨t, rfl, ht⟩ := h
    exact ⟨_, rfl, _, _, _, _, false, rfl, .own _, ty_tup ht, T.x_S_tup, fin⟩
  | sum t => exact ⟨_, rfl, _, _, _, _, true, rfl, .own _, ty_sum T h, T.x_S_self, fin⟩
def spCheckSum : Sp := fun vs H Q _ => ∃ (v : V) (q : Nat × Tab), vs = [v] ∧ SumV K H v q ∧ Q .non H
theorem ok_check_summary (T : Tx w K mg) : Fn1 P w K mg base 2 "check_summary" ["thing"] [] (spCheckSum (K := K)) := by
  refine T.E_check_summary (fun vs H Q E h => ?_) (fun cdv A outer s H vs Q E hr h => ?_)
  · obtain ⟨_, _, rfl, _⟩ := h
    rfl
  obtain ⟨v, q, rfl, h, fin⟩ := h
  refine ⟨_, pss_one (ps_if (pt_not (pt_val (pe_f (ok_is_summary T) hr (pa_cons (pv 0) pa_nil)))) pss_never pss_nil), ?_⟩
  exact ⟨_, rfl, v, q.1, .sum q.2, rfl, h, true, rfl, iteF fin⟩
/-- two summaries of the same counts -/
def Rs (K : PySem.W.Frag) (a b : Addr) (H : Hp) : Prop := ∃ q, SumV K H (.ref a) q ∧ SumV K H (.ref b) q
def DTab (K : PySem.W.Frag) : Eqv := DTup K (DTup K DFlat)
theorem mon_tab : Mon (DTab K) := mon_tup (mon_tup mon_flat)
theorem rcG_tab {X : Cx} : RcG X 2 (DTab X.K) := rcG_tup (mon_tup mon_flat) (eqG_tup mon_flat eqG_flat)
theorem eqG_tab {X : Cx} : EqG X 2 (DTab X.K) := eqG_tup (mon_tup mon_flat) (eqG_tup mon_flat eqG_flat)
theorem eqV_self {x : V} (h : flatV x = true) : eqV x x = true := by
  cases x <;> simp_all [flatV, eqV]
theorem d_pr {H : Hp} {u v : V} {p : Str × Int} (h1 : PrV K H u p) (h2 : PrV K H v p) : DTup K DFlat u v H := by
  obtain ⟨a, rfl, ha⟩ := h1
  obtain ⟨b, rfl, hb⟩ := h2
  exact ⟨a, b, _, _, rfl, rfl, ha, hb, .cons ⟨rfl, rfl, eqV_self rfl⟩ (.cons ⟨rfl, rfl, eqV_self rfl⟩ .nil)⟩
theorem prs_pd {α : Type} {D : Eqv} {H : Hp} {F : V → α → Prop} (f : ∀ u v a, F u a → F v a → D u v H) : ∀ {xs ys : List V} {l : List α}, Paired F xs l → Paired F ys l → Prs D xs ys H
  | _, _, _, .nil, .nil => .nil
  | _, _, _, .cons r t, .cons r' t' => .cons (f _ _ _ r r') (prs_pd f t t')
theorem d_tab {H : Hp} {u v : V} {t : Tab} (h1 : TupOf K (PrV K) H u t) (h2 : TupOf K (PrV K) H v t) : DTab K u v H := by
  obtain ⟨a, xs, rfl, ha, p⟩ := h1
  obtain ⟨b, ys, rfl, hb, q⟩ := h2
  exact ⟨a, b, xs, ys, rfl, rfl, ha, hb, prs_pd (D := DTup K DFlat) (H := H) (F := PrV K H) (fun _ _ _ h1 h2 => d_pr h1 h2) p q⟩
theorem ok_SEq (T : Tx w K mg) : Mt1 P w K mg base 3 (CS K) "__eq__" ["self", "other"] [] (spEq (Rs K)) := by
  refine T.E_Summary___eq__ (fun vs H Q E h => ?_) (fun cdv A outer s H vs Q E hr h => ?_)
  · obtain ⟨_, _, rfl, _⟩ := h
    rfl
  obtain ⟨a, b, rfl, ⟨q, hA, hB⟩, fin⟩ := h
  have ty := ty_sum T hB
  obtain ⟨_, da, ca, e1, h1, ta⟩ := hA
  cases e1
  obtain ⟨_, db, cb, e2, h2, tb⟩ := hB
  cases e2
  refine ⟨_, pss_one (ps_ret (pe_and (pe_callB call_isi rfl T.b_isinstance bt_isi (pa_cons (pv 1) (pa_cons (pe_glob (v := .ref (CS K)) (by rfl) T.m_Summary rfl) pa_nil)))
    (pe_and (pe_cmpR op_eq (pe_fld (pv 0) rfl) (pe_fld (pv 1) rfl) (nomark _)) (pe_one (pe_cmpR (op_eqG (rcG_tab) hr) (pe_fld (pv 0) rfl) (pe_fld (pv 1) rfl) (nomark _)))))), ?_⟩
  refine ⟨_, rfl, _, _, _, _, true, rfl, .own _, ty, T.x_S_self, true, rfl, iteT ?_⟩
  refine ⟨_, rfl, a, _, da, _, _, rfl, h1, T.c_Summary, T.n_Summary_capacity, lk_c0, _, rfl, b, _, db, _, _, rfl, h2, T.c_Summary, T.n_Summary_capacity, lk_c0, rfl, true, congrArg V.bl (decide_eq_true rfl), iteT ?_⟩
  exact ⟨_, rfl, a, _, da, _, _, rfl, h1, T.c_Summary, T.n_Summary_counts, lk_cc, _, rfl, b, _, db, _, _, rfl, h2, T.c_Summary, T.n_Summary_counts, lk_cc, d_tab ta tb, fin⟩
/-- a text may be made of it -/
structure Tx9 (t : Tab) : Prop where
  nm : ∀ p ∈ t, p.1.length < 9
  sm : Sml t
  len : t.length ≤ 60
def spSStr : Sp := fun vs H Q _ => ∃ (v : V) (q : Nat × Tab), vs = [v] ∧ SumV K H v q ∧ Tx9 q.2 ∧ ∀ H', Same H H' → Q (.str (txt q.2)) H'
theorem ok_SStr (T : Tx w K mg) : Mt1 P w K mg base 2 (CS K) "__str__" ["self"] [] (spSStr (K := K)) := by
  refine T.E_Summary___str__ (fun vs H Q E h => ?_) (fun cdv A outer s H vs Q E hr h => ?_)
  · obtain ⟨_, _, rfl, _⟩ := h
    rfl
  obtain ⟨v, q, rfl, ⟨p, dx, c, rfl, h1, tc⟩, t9, fin⟩ := h
  refine ⟨_, pss_one (ps_ret (pe_callTy SkE.call_str_str rfl T.b_str bt_str (pa_cons (pe_f (ok_counts_text T) hr (pa_cons (pe_fld (pv 0) rfl) pa_nil)) pa_nil))), ?_⟩
  exact ⟨_, rfl, p, _, dx, _, _, rfl, h1, T.c_Summary, T.n_Summary_counts, lk_cc, c, q.2, rfl, tc, t9.nm, t9.sm, t9.len, fun H1 s1 => ⟨_, rfl, fin H1 s1⟩⟩
def rS (k : Nat) (t : Tab) : Str := ((((Str.empty ++ ("Summary(" : Str)) ++ (toString (k : Int) : String)) ++ (", '" : Str)) ++ txt t) ++ ("')" : Str)
def spSRepr : Sp := fun vs H Q _ => ∃ (v : V) (q : Nat × Tab), vs = [v] ∧ SumV K H v q ∧ q.1 ≤ 8 ∧ Tx9 q.2 ∧ ∀ H', Same H H' → Q (.str (rS q.1 q.2)) H'
theorem small_of {i : Int} {b : Nat} (h0 : 0 ≤ i) (h : i.toNat < 2 ^ b) (hb : b ≤ 1920) : Small i := by
  unfold Small
  have e : i.natAbs = i.toNat := by omega
  rw [e]
  rcases Nat.eq_zero_or_pos i.toNat with z | z
  · rw [z]
    decide
  · exact Nat.lt_of_lt_of_le ((Nat.log2_lt (by omega)).mpr h) hb
theorem rS_len {k : Nat} {t : Tab} (h : k ≤ 8) (t9 : Tx9 t) : (rS k t).length ≤ 700000 := by
  have a := txt_len t9.nm t9.sm t9.len
  have b := PyProof.Rows.int_text_len_1921 (i := (k : Int)) (small_of (b := 4) (by omega) (by omega) (by decide))
  unfold rS
  simp only [PySem.Str.length_append]
  have c1 : (Str.empty).length = 0 := rfl
  have c2 : ("Summary(" : Str).length = 8 := by decide +kernel
  have c3 : (", '" : Str).length = 3 := by decide +kernel
  have c4 : ("')" : Str).length = 2 := by decide +kernel
  omega
theorem ok_SRepr (T : Tx w K mg) : Mt1 P w K mg base 2 (CS K) "__repr__" ["self"] [] (spSRepr (K := K)) := by
  refine T.E_Summary___repr__ (fun vs H Q E h => ?_) (fun cdv A outer s H vs Q E hr h => ?_)
  · obtain ⟨_, _, rfl, _⟩ := h
    rfl
  obtain ⟨v, q, rfl, ⟨p, dx, c, rfl, h1, tc⟩, hk, t9, fin⟩ := h
  refine ⟨_, pss_one (ps_ret (pe_joined (.cons pe_str (.cons (pe_fmt (pe_fld (pv 0) rfl)) (.cons pe_str (.cons (pe_fmt (pe_f (ok_counts_text T) hr (pa_cons (pe_fld (pv 0) rfl) pa_nil))) (.cons pe_str .nil))))))), ?_⟩
  have a := rS_len hk t9
  have b := txt_len t9.nm t9.sm t9.len
  have z : sizeLine = 16777216 := sizeLine_eq
  have e : (rS q.1 q.2).length = ((((0 + 8) + (Str.ofString (toString (q.1 : Int))).length) + 3) + (txt q.2).length) + 2 := by
    unfold rS
    simp only [PySem.Str.length_append]
    rfl
  have small : Small (q.1 : Int) := small_of (b := 4) (by omega) (by omega) (by decide)
  refine ⟨_, rfl, ?_, _, rfl, p, _, dx, _, _, rfl, h1, T.c_Summary, T.n_Summary_capacity, lk_c0, .inr ⟨_, rfl, small, _, rfl, ?_, _, rfl, ?_, _, rfl, p, _, dx, _, _, rfl, h1, T.c_Summary, T.n_Summary_counts, lk_cc, c, q.2, rfl, tc, t9.nm, t9.sm, t9.len, fun H1 s1 => .inl ⟨_, rfl, ?_, _, rfl, ?_, _, rfl, ?_, fin H1 s1⟩⟩⟩
  · rw [z]; decide
  · simp only [PySem.Str.length_append]
    show (0 + 8) + (Str.ofString (toString (q.1 : Int))).length ≤ _
    omega
  · simp only [PySem.Str.length_append]
    show ((0 + 8) + (Str.ofString (toString (q.1 : Int))).length) + 3 ≤ _
    omega
  · omega
  · simp only [PySem.Str.length_append]
    show (((0 + 8) + (Str.ofString (toString (q.1 : Int))).length) + 3) + (txt q.2).length ≤ _
    omega
  · show (rS q.1 q.2).length ≤ _
    omega
end
end Kx
set_option Elab.async false
set_option linter.all false
set_option maxRecDepth 100000
set_option maxHeartbeats 4000000
namespace Kx
open PySem PySem.Spec PyProof.Rows L2
section
variable {P : Program} {w : World} {K : PySem.W.Frag} {mg : Str → Option Value} {base : Heap}
/-- what an arrival makes of the counts -/
def arv (k : Nat) (t : Tab) (x : Str) (n : Int) : Tab := flat (arr k t x n).1
theorem arv_cn {k : Nat} {t : Tab} {x : Str} {n : Int} (hk : 1 ≤ k) (h : Cn k t) (hx : IsNm x) (hn : 1 ≤ n) : Cn k (arv k t x n) := flat_cn (arr_tk hk h.tk (by omega)) fun p hp => by
  rcases arr_nms (List.mem_map_of_mem (f := (·.1)) hp) with z | z
  · obtain ⟨q, h1, h2⟩ := List.mem_map.mp z
    exact h2 ▸ h.nm q h1
  · exact z ▸ hx
def spSArrive : Sp := fun vs H Q _ => ∃ (v : V) (k : Nat) (t : Tab) (x : Str) (n : Int), vs = [v, .str x, .int n] ∧ SumV K H v (k, t) ∧ Cn k t ∧ 1 ≤ k ∧ k ≤ 8 ∧ IsNm x ∧ 1 ≤ n ∧ ∀ u H', Same H H' → SumV K H' u (k, arv k t x n) → Q u H'
theorem ok_SArrive (T : Tx w K mg) : Mt1 P w K mg base 7 (CS K) "arrive" ["self", "name", "times"] [] (spSArrive (K := K)) := by
  obtain ⟨fd, F, D⟩ : ∃ fd, FnOk P w K mg base CX0 7 (He.ma K (He.ga K "Summary") "arrive") fd ["self", "name", "times"] (spSArrive (K := K)) ∧ _ := T.G_Summary_arrive (k := 6) (sp := spSArrive (K := K)) (fun vs H Q E h => by
    obtain ⟨_, _, _, _, _, rfl, _⟩ := h
    rfl) (fun cdv A outer s H vs Q E hr h => by
    obtain ⟨v, k, t, x, n, rfl, ⟨p, dx, c, rfl, h1, tc⟩, cn, hk, hk8, hx, hn, fin⟩ := h
    refine ⟨_, pss_cons (ps_expr (pe_f (ok_check_name T) (hr.mono (by decide)) (pa_cons (pv 1) pa_nil)))
      (pss_cons (ps_if (pt_not (pt_val (pe_f (ok_is_from T) (hr.mono (by decide)) (pa_cons (pv 2) (pa_cons pe_int pa_nil))))) pss_never pss_nil)
      (pss_one (ps_ret (pe_mk (mk_S2 T) hr (pa_cons (pe_fld (pv 0) rfl) (pa_cons (pe_f (ok_counts_of_table T) (hr.mono (by decide)) (pa_cons (pe_ix ix_tup (pe_f (ok_arrived T) (hr.mono (by decide)) (pa_cons (pe_fld (pv 0) rfl) (pa_cons (pe_f (ok_table_of T) (hr.mono (by decide)) (pa_cons (pe_fld (pv 0) rfl) pa_nil)) (pa_cons (pv 1) (pa_cons (pv 2) pa_nil))))) pe_int (fun _ _ => rfl)) pa_nil)) pa_nil)))))), ?_⟩
    have cl := cn.len
    refine ⟨_, rfl, x, rfl, hx, fun H1 s1 => ⟨_, rfl, n, 1, rfl, _, rfl, ?_⟩⟩
    rw [decide_eq_true hn]
    have q1 := s1 _ _ h1
    have tc1 := prs_same s1 tc
    obtain ⟨a, xs, rfl, ha, hp⟩ := tc1
    refine iteF ⟨_, rfl, p, _, dx, _, _, rfl, q1, T.c_Summary, T.n_Summary_capacity, lk_c0, _, rfl, p, _, dx, _, _, rfl, q1, T.c_Summary, T.n_Summary_capacity, lk_c0, _, rfl, p, _, dx, _, _, rfl, q1, T.c_Summary, T.n_Summary_counts, lk_cc, a, xs, t, rfl, .inl ha, hp, by omega, fun d H2 s2 hd2 h2 => ?_⟩
    rw [tab_id (asc_nd cn.asc)] at h2
    refine ⟨_, rfl, _, rfl, k, d, t, x, n, rfl, h2, cn.tk.tb (by omega), hk, hn, fun e p2 H3 s3 h3 h4 => ?_⟩
    have tk := arr_tk hk cn.tk (x := x) (n := n) (by omega)
    refine ⟨p2, _, 0, _, rfl, rfl, .inl (.inl h4), atI_nat (j := 0) rfl, e, _, rfl, h3, by have := tk.len; omega, fun u H4 s4 hu => ?_⟩
    rw [flatP_flat tk.nd tk.ge] at hu
    exact made_S T (c := u) (t := arv k t x n) hk hk8 hu (arv_cn hk cn hx hn) fun v H5 s5 hv => fin v H5 (s1.trans (s2.trans (s3.trans (s4.trans s5)))) hv)
  obtain ⟨ds, h1, h2⟩ := D.binds1 (ps := ["self", "name", "times"]) 3 1 (by simp) rfl (fun _ _ _ _ _ _ _ us its hl h2 => match us, its, hl, h2 with | [_, _, _], [_], _, _ => ⟨_, rfl, rfl⟩)
  exact ⟨_, fd, ds, F, T.c_Summary, T.me_Summary_arrive, h2, h1⟩
theorem cat_d {α : Type} {C : Addr} {R : Hp → V → α → Prop} (S : Stb C R) {H : Hp} {x y : V} {l m : List α} {Q : VK} (h1 : TupOf K R H x l) (h2 : TupOf K R H y m) (hz : l.length + m.length ≤ 1000) (q : ∀ u H', Same H H' → TupOf K R H' u (l ++ m) → Q u H') : rCatA K x y H Q := by
  obtain ⟨a, xs, rfl, ha, p⟩ := h1
  obtain ⟨b, ys, rfl, hb, r⟩ := h2
  have e1 := pd_len p
  have e2 := pd_len r
  refine ⟨a, b, xs, ys, rfl, rfl, ha, hb, Nat.le_trans (show xs.length + ys.length ≤ 1000 by omega) (by decide), fun z => ?_, fun _ z => ?_, fun _ _ p0 hp0 => ?_⟩
  · subst z
    cases p
    exact q _ _ (Same.refl _) ⟨b, ys, rfl, hb, r⟩
  · subst z
    cases r
    exact q _ _ (Same.refl _) ⟨a, xs, rfl, ha, by rw [List.append_nil]; exact p⟩
  · exact q _ _ (sm_new hp0) ⟨p0, xs ++ ys, rfl, .inl (.inl upd_same), pd_imp (fun _ _ h => S.sm (sm_new hp0) h) (pd_app p r)⟩
def spSMerged : Sp := fun vs H Q _ => ∃ (u v : V) (k : Nat) (s t : Tab), vs = [u, v] ∧ SumV K H u (k, s) ∧ SumV K H v (k, t) ∧ Cn k s ∧ Cn k t ∧ 1 ≤ k ∧ k ≤ 8 ∧ ∀ r H', Same H H' → SumV K H' r (k, mrg k s t) → Q r H'
theorem ok_SMerged (T : Tx w K mg) : Mt1 P w K mg base 7 (CS K) "merged" ["self", "other"] [] (spSMerged (K := K)) := by
  refine T.E_Summary_merged (fun vs H Q E h => ?_) (fun cdv A outer s H vs Q E hr h => ?_)
  · obtain ⟨_, _, _, _, _, rfl, _⟩ := h
    rfl
  obtain ⟨u, v, k, s, t, rfl, hU, hV, c1, c2, hk, hk8, fin⟩ := h
  have hV0 := hV
  obtain ⟨p, dx, c, rfl, h1, tc⟩ := hU
  obtain ⟨p', dx', c', rfl, h2, tc'⟩ := hV
  have hu := hu_of hr
  refine ⟨_, pss_cons (ps_expr (pe_f (ok_check_summary T) (hr.mono (by decide)) (pa_cons (pv 1) pa_nil)))
    (pss_cons (ps_if (pt_cmpR op_ne (pe_fld (pv 1) rfl) (pe_fld (pv 0) rfl) (nomark _)) pss_never pss_nil)
    (pss_cons (ps_set (i := 2) sc_Summary_merged.nd rfl (Or.inr rfl) (pe_f (ok_table_of T) (hr.mono (by decide)) (pa_cons (pe_op op_catA (pe_fld (pv 0) rfl) (pe_fld (pv 1) rfl)) pa_nil)))
    (pss_cons (ps_set (i := 3) sc_Summary_merged.nd rfl (Or.inl rfl) (pe_callBK (cr_sortedRev (b := true)) rfl T.b_sorted bt_sorted (pa_cons (pe_lock (pe_lc (own := [("name", 4)]) (g := gName 4) (tt := tYes) rfl sc_Summary_merged.nd (pi_keys (pv 2)) (blkOk_by (N := n_Summary_merged) (sc := defScope s_Summary_merged) (by decide +kernel))
        (fun _ _ _ _ _ => pg_name (i := 4) sc_Summary_merged.nd rfl (Or.inl rfl)) (fun _ _ _ _ _ => pts_nil) (fun _ _ _ _ _ => pe_dget hu (pv 2) (pv 4) (fun _ _ => rfl)))) pa_nil) (pk_cons pe_bl pk_nil)))
    (pss_cons (ps_set (i := 5) sc_Summary_merged.nd rfl (Or.inr rfl) (pe_ifExp (pt_cmpR op_gt (pe_callB call_len_seq rfl T.b_len bt_len (pa_cons (pv 3) pa_nil)) (pe_fld (pv 0) rfl) (nomark _)) (pe_ix ix_list (pv 3) (pe_fld (pv 0) rfl) (fun _ _ => rfl)) pe_int))
    (pss_one (ps_ret (pe_mk (mk_S2 T) hr (pa_cons (pe_fld (pv 0) rfl) (pa_cons (pe_f (ok_counts_of_table T) (hr.mono (by decide)) (pa_cons (pe_lock (pe_dc (own := [("name", 4)]) (tt := tYes) rfl sc_Summary_merged.nd (pi_keys (pv 2)) (blkOk_by (N := n_Summary_merged) (sc := defScope s_Summary_merged) (by decide +kernel))
        (fun _ _ _ _ _ => pg_name (i := 4) sc_Summary_merged.nd rfl (Or.inl rfl)) (fun _ _ _ _ _ => pts_nil) (fun _ _ _ _ _ => pv 4) (fun _ _ _ _ _ => pe_op op_sub (pe_dget hu (pv 2) (pv 4) (fun _ _ => rfl)) (pv 5)))) pa_nil)) pa_nil))))))))), ?_⟩
  refine ⟨_, rfl, _, (k, t), rfl, hV0, _, rfl, p', _, dx', _, _, rfl, h2, T.c_Summary, T.n_Summary_capacity, lk_c0, _, rfl, p, _, dx, _, _, rfl, h1, T.c_Summary, T.n_Summary_capacity, lk_c0, rfl, _, rfl, ?_⟩
  rw [decide_eq_true rfl]
  have l1 := c1.len
  have l2 := c2.len
  refine iteF ⟨_, rfl, p, _, dx, _, _, rfl, h1, T.c_Summary, T.n_Summary_counts, lk_cc, _, rfl, p', _, dx', _, _, rfl, h2, T.c_Summary, T.n_Summary_counts, lk_cc, cat_d (C := 0) stb_pr tc tc' (by show s.length + t.length ≤ 1000; omega) fun u H1 s1 hu1 => ?_⟩
  obtain ⟨a, xs, rfl, ha, hp⟩ := hu1
  have ll : (s ++ t).length ≤ 16 := by
    rw [List.length_append]
    show s.length + t.length ≤ 16
    omega
  refine ⟨a, xs, _, rfl, .inl ha, hp, Nat.le_trans ll (by decide), fun d H2 s2 hd2 h3 => ?_⟩
  have nd := tab_nd (s ++ t)
  have tl := tab_len (s ++ t)
  refine ⟨d, _, h3, trivial, fun od => ⟨_, rfl, d, od, rfl, .inl ⟨_, upd_same, fun D hD => ?_⟩⟩⟩
  have hdD : D ≠ d := fun e => by rw [e, upd_same] at hD; cases hD
  refine lc_M (C := 0) walk_keys (tab (s ++ t)) (fun p => p.2) IntV stb_int (kd_len _).symm (by rw [kd_len]; exact Nat.le_trans tl (Nat.le_trans ll (by decide))) hD (fun H' s => s _ _ upd_same) (fun i q v H3 H4 F1 hi s y f1 => ?_) fun ys H3 s3 hy q => ?_
  · obtain ⟨rfl, k', v', ek, rfl⟩ := y
    obtain ⟨rfl, rfl⟩ := kd_at hi ek
    exact ⟨rfl, _, rfl, _, rfl, d, _, rfl, dg (.inr ⟨od, s _ _ upd_same⟩) (lk_mem nd (List.mem_of_getElem? hi)), f1 _ _ (Same.refl _) rfl⟩
  have s4 : Same H2 (upd H3 d (.dK (kd (tab (s ++ t))))) := sm_lock h3 s3
  have ey : ys = ((tab (s ++ t)).map (·.2)).map V.int := pd_eq (h := V.int) q
  refine ⟨s3 _ _ upd_same, D, (tab (s ++ t)).map (·.2), rfl, rfl, SqL.of (by rw [upd_ne hdD, hy, ey]), fun ns p1 pm od' hp1 => ?_⟩
  obtain rfl : ns = rk (tab (s ++ t)) := pwI_eq od' (rk_pw _) (pm.trans (rk_perm _).symm)
  have s5 := s4.trans (sm_new (o := .lst ((rk (tab (s ++ t))).map V.int)) hp1)
  have q1 := s5 _ _ (s2 _ _ (s1 _ _ h1))
  refine ⟨_, rfl, p1, _, rfl, .inl (SqL.of upd_same), _, rfl, p, _, dx, _, _, rfl, q1, T.c_Summary, T.n_Summary_capacity, lk_c0, _, _, rfl, rfl, _, rfl, ?_⟩
  rw [List.length_map, rk_len]
  have fin2 : ∀ {F : V → Hp → Prop}, F (.int (cut k (tab (s ++ t)))) (upd (upd H3 d (.dK (kd (tab (s ++ t))))) p1 (.lst ((rk (tab (s ++ t))).map V.int))) → (if decide ((k : Int) < ((tab (s ++ t)).length : Nat)) = true then (tOp (rIxL K) (tVar 3) (tFld K (tVar 0) "capacity")) [some (.ref p), some (.ref p'), some (.ref d), some (.ref p1), none, none] (upd (upd H3 d (.dK (kd (tab (s ++ t))))) p1 (.lst ((rk (tab (s ++ t))).map V.int))) F else F (.int 0) (upd (upd H3 d (.dK (kd (tab (s ++ t))))) p1 (.lst ((rk (tab (s ++ t))).map V.int)))) := fun {F} h => by
    by_cases c : k < (tab (s ++ t)).length
    · rw [decide_eq_true (show (k : Int) < ((tab (s ++ t)).length : Nat) by omega)]
      refine iteT ⟨_, rfl, _, rfl, p, _, dx, _, _, rfl, q1, T.c_Summary, T.n_Summary_capacity, lk_c0, p1, _, (k : Int), .int (cut k (tab (s ++ t))), rfl, rfl, SqL.of upd_same, ?_, h⟩
      have hk' : k < (rk (tab (s ++ t))).length := by rw [rk_len]; exact c
      refine atI_nat (j := k) ?_
      rw [List.getElem?_map, List.getElem?_eq_getElem hk']
      unfold cut
      rw [if_pos c]
      simp [hk']
    · rw [decide_eq_false (show ¬ (k : Int) < ((tab (s ++ t)).length : Nat) by omega)]
      refine iteF ?_
      have e : cut k (tab (s ++ t)) = 0 := by
        unfold cut
        rw [if_neg c]
      rw [e] at h
      exact h
  refine fin2 ?_
  have h3' := s5 _ _ h3
  refine ⟨_, rfl, p, _, dx, _, _, rfl, q1, T.c_Summary, T.n_Summary_capacity, lk_c0, d, _, h3', trivial, fun od2 => ⟨_, rfl, d, od2, rfl, .inl ⟨_, upd_same, fun D2 hD2 => ?_⟩⟩⟩
  have hdD2 : D2 ≠ d := fun e => by rw [e, upd_same] at hD2; cases hD2
  refine dc_R walk_keys (tab (s ++ t)) (fun _ => true) (fun q => (q.1, q.2 - cut k (tab (s ++ t)))) (kd_len _).symm (by rw [kd_len]; exact Nat.le_trans tl (Nat.le_trans ll (by decide))) hD2 (fun H' s => s _ _ upd_same) (fun i q x H4 H5 F1 F0 hi s' y f1 f0 => ?_) fun H4 s6 h6 => ?_
  · obtain ⟨rfl, k', v', ek, rfl⟩ := y
    obtain ⟨rfl, rfl⟩ := kd_at hi ek
    exact ⟨rfl, iteT (B := F0 H5) ⟨_, rfl, _, rfl, _, rfl, d, _, rfl, dg (.inr ⟨od2, s' _ _ upd_same⟩) (lk_mem nd (List.mem_of_getElem? hi)), _, rfl, _, _, rfl, rfl, f1 rfl _ (Same.refl _)⟩⟩
  · have e1 : held (((tab (s ++ t)).filter fun _ => true).map fun q => (q.1, q.2 - cut k (tab (s ++ t)))) = less (tab (s ++ t)) (cut k (tab (s ++ t))) := by
      rw [List.filter_eq_self.mpr fun _ _ => rfl]
      exact held_id (by
        have := nms_less (tab (s ++ t)) (cut k (tab (s ++ t)))
        unfold less at this
        rw [this]
        exact nd)
    rw [e1] at h6
    have s7 := sm_lock h3' s6
    refine ⟨s6 _ _ upd_same, D2, _, rfl, by rw [upd_ne hdD2]; exact h6, ?_, fun u H5 s8 hu5 => ?_⟩
    · unfold less
      rw [List.length_map]
      omega
    · exact made_S T (c := u) (t := mrg k s t) hk hk8 hu5 (mrg_cn c1.nm c2.nm) fun v H6 s9 hv => fin v H6 (s1.trans (s2.trans (s5.trans (s7.trans (s8.trans s9))))) hv
end
end Kx
set_option Elab.async false
set_option linter.all false
set_option maxRecDepth 100000
set_option maxHeartbeats 4000000
namespace Kx
open PySem PySem.Spec PyProof.Rows L2
/-! ### own methods called by the machine: ==, !=, len, repr, str -/
section
variable {X : Cx} {n : Nat} {f C : Addr} {fd : FuncData} {ps : List Str} {sp : Sp} {m : Str}
/-- a method and its promise, bare -/
structure Own (X : Cx) (n : Nat) (C : Addr) (m : Str) (sp : Sp) : Prop where
  ex : ∃ (f : Addr) (fd : FuncData) (ps : List Str), FnOk X.prog X.w X.K X.mg X.base CX0 n f fd ps sp ∧ PySem.W.findIn X.K (.ref C) m = some (some (.ref f)) ∧ PySem.W.isFn X.K (.ref f) = true ∧ Binds X.K fd ps []
theorem run_own (F : FnOk X.prog X.w X.K X.mg X.base CX0 n f fd ps sp) (hb : Binds X.K fd ps []) {A : Around} (sb : Sub X n A) {pins : List (Addr × Obj)} {s : Shared} {σ : L2.St} {H : Hp} {vs : List V} {us : List Value} {Q : VK} (I : Inv X pins σ H s) (r : Vals vs us) (h : sp vs H Q E0) :
    wpAny (model X.prog X.w) A (call (.ref f) us) (EP X pins σ Q) X.xe s := by
  have e0 : Env0 X.prog X.w X.K X.mg X.base A X.stack s H := by
    have e := I.env0
    exact ⟨by rw [sb.fr]; exact e.frames, e.mod, e.bs, e.bsz, e.funs, e.frf, e.hok, e.bare⟩
  have hl := F.len _ _ _ _ h
  refine wpAny_call (codeAny_mono (F.run A X.stack s H ⟨us, []⟩ us vs _ E0 sb.room e0 (by
    have := hb s us I.kIn (by rw [List.append_nil, ← r.length]; exact hl)
    simpa using this) r h) fun r s' hq => ?_)
  cases r with
  | error e => exact pass0 pins σ H s e s' I hq
  | ok fl =>
    cases fl with
    | ret w =>
      obtain ⟨z, H', I', rz, ez⟩ := I.after hq
      exact ⟨z, H', I', rz, ez⟩
    | next => exact False.elim hq
    | brk => exact False.elim hq
    | cont => exact False.elim hq
/-- x == y of two of C -/
theorem op_eqO (O : Own X n C "__eq__" sp) (hr : Room n X.A) : OpR X (compareOp .Eq) (fun x y H Q => ∃ a b dx dy fs gs, x = .ref a ∧ y = .ref b ∧ H a = some (.ins C dx fs) ∧ H b = some (.ins C dy gs) ∧ sp [.ref a, .ref b] H (fun v H' => ∃ k, v = .bl k ∧ Q (.bl k) H') E0) := by
  intro pins s σ H x y v u Q I rx ry h
  obtain ⟨a, b, dx, dy, fs, gs, rfl, rfl, ha, hb', hq⟩ := h
  obtain ⟨f, fd, ps, F, hs, hf, hb⟩ := O.ex
  cases rx
  cases ry
  obtain ⟨mA, J, _⟩ := ins_get I.hok ha
  obtain ⟨mB, J', _⟩ := ins_get I.hok hb'
  obtain ⟨od, J, _⟩ := J.look
  obtain ⟨od', J', _⟩ := J'.look
  obtain ⟨m, hF⟩ := I.fr
  show wpAny (model X.prog X.w) X.A (richCompare .Eq (.ref a) (.ref b)) (EP X pins σ Q) X.xe s
  refine PySem.W.cmp_K (op := .Eq) (tb := .ref C) hr.units0 hF I.ok.mod.kin J J'.type (by simp [PySem.W.notFirst]) hs hf ?_
  refine wpAny_mono (run_own F hb ⟨hr, rfl⟩ I (.cons (show RelV (.ref a) (.ref a) from rfl) (.cons (show RelV (.ref b) (.ref b) from rfl) .nil)) hq) (fun r s' z => ?_) fun _ _ e => e
  obtain ⟨x, H', I', rx, k, rfl, q⟩ := z
  cases rx
  exact ⟨.bl k, H', I', rfl, q⟩
/-- callSpecialIfBound? to a built-in's method that the class takes over -/
theorem ifBound_B {M : Model} {A : Around} {s : Shared} {K : PySem.W.Frag} {x : Addr} {ox : Obj} {od : Option Obj} {name : Str} {T id : String} {args : List Value} {Q : Option Value → Shared → Prop} {E : Value → Shared → Prop} (Xk : K.In s.heap) (I : PySem.W.InstAt s.heap x ox C od)
    (hs : PySem.W.findIn K (.ref C) name = some (some (.builtin id))) (S : Slot T name id)
    (h : wpAny M A (call (.builtin id) (.ref x :: args)) (fun v => Q (some v)) E s) : wpAny M A (callSpecialIfBound? (.ref x) name args) Q E s := by
  simp only [callSpecialIfBound?, bindSpecialIfBound?]
  refine wpAny_holding (wpAny_bind (wpAny_bind (wpAny_bind (I.type.here ((PySem.W.looks_findIn Xk hs).here ?_)))))
  simp only [S.bind]
  refine wpAny_bind (wpAny_askSetting (wpAny_ite ?_))
  have fin : wpAny M A (call (.builtin id) ([.ref x] ++ args) >>= fun v => pure (some v)) Q E s := wpAny_bind (wpAny_mono h (fun v s' h' => wpAny_pure h') fun _ _ h' => h')
  split
  · exact wpAny_bind (wpAny_pure (wpAny_pure fin))
  · exact wpAny_tryCatch (wpAny_bind (wpAny_pure (wpAny_pure fin)))
theorem check_obj {M : Model} {A : Around} {s : Shared} {K : PySem.W.Frag} {x y : Addr} {ox : Obj} {od : Option Obj} {Q : Unit → Shared → Prop} {E : Value → Shared → Prop} (Xk : K.In s.heap) (I : PySem.W.InstAt s.heap x ox C od) (hm : PySem.W.mroIn K C (.type "object") = some true)
    (hq : Q () s) : wpAny M A (checkBuiltinCall "object.__ne__" ⟨[.ref x, .ref y], []⟩) Q E s := by
  simp only [checkBuiltinCall, F.cmpKind_ne, F.cmpSplit_ne]
  refine wpAny_bind ?_
  unfold isInstance
  refine wpAny_bind (I.type.here ?_)
  refine (PySem.W.looks_mroIn Xk hm).here ?_
  simp only [Bool.not_true, Bool.false_eq_true, if_false]
  refine wpAny_pure ?_
  exact hq
/-- x != y of two of C, by object's -/
theorem op_neO (O : Own X n C "__eq__" sp) (hne : PySem.W.findIn X.K (.ref C) "__ne__" = some (some (.builtin "object.__ne__"))) (hm : PySem.W.mroIn X.K C (.type "object") = some true) (hr : Room (n + 1) X.A) :
    OpR X (compareOp .NotEq) (fun x y H Q => ∃ a b dx dy fs gs, x = .ref a ∧ y = .ref b ∧ H a = some (.ins C dx fs) ∧ H b = some (.ins C dy gs) ∧ sp [.ref a, .ref b] H (fun v H' => ∃ k, v = .bl k ∧ Q (.bl (!k)) H') E0) := by
  intro pins s σ H x y v u Q I rx ry h
  obtain ⟨a, b, dx, dy, fs, gs, rfl, rfl, ha, hb', hq⟩ := h
  obtain ⟨f, fd, ps, F, hs, hf, hb⟩ := O.ex
  cases rx
  cases ry
  obtain ⟨mA, J, _⟩ := ins_get I.hok ha
  obtain ⟨mB, J', _⟩ := ins_get I.hok hb'
  obtain ⟨od, J, _⟩ := J.look
  obtain ⟨od', J', _⟩ := J'.look
  have Xk := I.kIn
  show wpAny (model X.prog X.w) X.A (richCompare .NotEq (.ref a) (.ref b)) (EP X pins σ Q) X.xe s
  have hc : wpAny (model X.prog X.w) X.A.in1 (call (.ref f) [.ref a, .ref b]) (fun v s' => ∃ k, v = .bool k ∧ EP X pins σ Q (.bool (!k)) s') X.xe s := by
    refine wpAny_mono (run_own F hb ⟨hr.in1, rfl⟩ I (.cons (show RelV (.ref a) (.ref a) from rfl) (.cons (show RelV (.ref b) (.ref b) from rfl) .nil)) hq) (fun r s' z => ?_) fun _ _ e => e
    obtain ⟨x, H', I', rx, k, rfl, q⟩ := z
    cases rx
    exact ⟨k, rfl, .bl (!k), H', I', rfl, q⟩
  have body : wpAny (model X.prog X.w) X.A.in1 (Builtin.«object.__ne__» ⟨[.ref a, .ref b], []⟩) (fun fin s' => ∃ v, fin = .done (.ret v) ∧ (∃ k, v = .bool k ∧ EP X pins σ Q v s')) X.xe s := by
    have hu : X.A.in1.units < cLine := hr.in1.units0
    unfold Builtin.«object.__ne__»
    repeat (first
      | with_reducible refine wpAny_cRoomFor hu ?_
      | (refine wpAny_bind (m := callSpecialIfBound? (.ref a) (Str.ofString "__eq__") [.ref b])
          (PySem.W.ifBound_K Xk J hs hf (wpAny_mono hc (fun r s' hr => by
            obtain ⟨k, rfl, hq⟩ := hr
            repeat (first | exact ⟨_, rfl, _, rfl, hq⟩ | exact wpAny_pure ⟨_, rfl, _, rfl, hq⟩ | exact wpAny_truthy_bool ⟨_, rfl, _, rfl, hq⟩ | (refine wpAny_bind (m := truthy (.bool _)) (wpAny_truthy_bool ?_)) | wp_step)) fun _ _ e => e)))
      | wp_step)
  unfold richCompare
  simp only [oneThing_ref]
  refine wpAny_holding ?_
  refine wpAny_bind (wpAny_cRoomFor hr.units0 ?_)
  rw [cmpInfo_NotEq]
  dsimp only
  refine wpAny_bind (J.type.here ?_)
  refine wpAny_bind (J'.type.here ?_)
  rw [show (Value.ref C != Value.ref C) = false from by simp]
  simp only [Bool.false_eq_true, if_false]
  refine wpAny_bind (wpAny_pure ?_)
  simp only [Bool.false_eq_true, if_false]
  have one : wpAny (model X.prog X.w) X.A (tryCompare (.ref a) "__ne__" (.ref b)) (fun r s' => ∃ k, r = some (.bool k) ∧ EP X pins σ Q (.bool k) s') X.xe s := by
    unfold tryCompare
    refine wpAny_bind (ifBound_B Xk J hne PySem.F.slot_object_ne (wpAny_call (codeAny_call_builtin PySem.F.slot_object_ne.plain PySem.F.cmpEntry_ne (check_obj Xk J hm (wpAny_mono body (fun fin s' hv => ?_) fun _ _ e => e)))))
    obtain ⟨v, rfl, k, rfl, hq⟩ := hv
    exact wpAny_pure ⟨k, rfl, hq⟩
  refine wpAny_bind (wpAny_mono one (fun r s' hv => ?_) fun _ _ e => e)
  obtain ⟨k, rfl, hq⟩ := hv
  exact wpAny_pure hq
end
end Kx
set_option Elab.async false
set_option linter.all false
set_option maxRecDepth 100000
set_option maxHeartbeats 4000000
namespace Kx
open PySem PySem.Spec PyProof.Rows L2
section
variable {X : Cx} {n : Nat} {C : Addr} {sp : Sp}
theorem own_look {pins : List (Addr × Obj)} {σ : L2.St} {H : Hp} {s : Shared} (I : Inv X pins σ H s) {a C dx : Addr} {fs : List (Str × V)} (h : H a = some (.ins C dx fs)) : ∃ ox od, PySem.W.InstAt s.heap a ox C od := by
  obtain ⟨m, J, _⟩ := ins_get I.hok h
  obtain ⟨od, J, _⟩ := J.look
  exact ⟨_, _, J⟩
/-- len(x) -/
theorem call_lenO (O : Own X n C "__len__" sp) (hr : Room (n + 1) X.A) : CallR X (.builtin "len") (fun xs H Q => ∃ a dx fs, xs = [.ref a] ∧ H a = some (.ins C dx fs) ∧ sp [.ref a] H (fun v H' => ∃ i : Int, v = .int i ∧ 0 ≤ i ∧ i < 2 ^ 63 ∧ Q (.int i) H') E0) := by
  intro pins s σ H xs us Q I r h
  obtain ⟨a, dx, fs, rfl, ha, hq⟩ := h
  obtain ⟨f, fd, ps, G, hs, hf, hb⟩ := O.ex
  obtain rfl := Vals.ref1 r
  obtain ⟨ox, od, J⟩ := own_look I ha
  obtain ⟨m, hF⟩ := I.fr
  refine PySem.W.len_K hF I.ok.mod.kin J hs hf (wpAny_mono (run_own G hb ⟨hr.in1, rfl⟩ I r hq) (fun v s' z => ?_) fun _ _ e => e)
  obtain ⟨x, H', I', rx, i, rfl, h0, h1, q⟩ := z
  obtain ⟨t, rfl⟩ := rx
  exact ⟨⟨h0, h1⟩, .int i, H', I'.tok _, ⟨_, rfl⟩, q⟩
/-- repr(x) -/
theorem call_reprO (O : Own X n C "__repr__" sp) (hr : Room (n + 1) X.A) : CallR X (.builtin "repr") (fun xs H Q => ∃ a dx fs, xs = [.ref a] ∧ H a = some (.ins C dx fs) ∧ sp [.ref a] H (fun v H' => ∃ y : Str, v = .str y ∧ Q (.str y) H') E0) := by
  intro pins s σ H xs us Q I r h
  obtain ⟨a, dx, fs, rfl, ha, hq⟩ := h
  obtain ⟨f, fd, ps, G, hs, hf, hb⟩ := O.ex
  obtain rfl := Vals.ref1 r
  obtain ⟨ox, od, J⟩ := own_look I ha
  obtain ⟨m, hF⟩ := I.fr
  refine PySem.W.repr_K hr.in1.units0 hF I.ok.mod.kin J hs hf (wpAny_mono (run_own G hb ⟨hr.in1, rfl⟩ I r hq) (fun v s' z => ?_) fun _ _ e => e)
  obtain ⟨x, H', I', rx, y, rfl, q⟩ := z
  obtain ⟨t, rfl⟩ := rx
  exact ⟨.str y, H', I', ⟨_, rfl⟩, q⟩
/-- str(x) -/
theorem call_strO (O : Own X n C "__str__" sp) (hr : Room (n + 2) X.A) : CallR X (.type "str") (fun xs H Q => ∃ a dx fs, xs = [.ref a] ∧ H a = some (.ins C dx fs) ∧ sp [.ref a] H (fun v H' => ∃ y : Str, v = .str y ∧ Q (.str y) H') E0) := by
  intro pins s σ H xs us Q I r h
  obtain ⟨a, dx, fs, rfl, ha, hq⟩ := h
  obtain ⟨f, fd, ps, G, hs, hf, hb⟩ := O.ex
  obtain rfl := Vals.ref1 r
  obtain ⟨ox, od, J⟩ := own_look I ha
  refine PySem.W.kso_call hr.in1.in1.units0 I.kIn J hs hf (wpAny_mono (run_own G hb ⟨hr.in1.in1, rfl⟩ I r hq) (fun v s' z => ?_) fun _ _ e => e)
  obtain ⟨x, H', I', rx, y, rfl, q⟩ := z
  obtain ⟨t, rfl⟩ := rx
  exact ⟨.str y, H', I', ⟨_, rfl⟩, q⟩
/-- a text times an int -/
theorem op_mul_str : OpR X (binaryOp .Mult) (fun x y H Q => ∃ (z : Str) (i : Int), x = .str z ∧ y = .int i ∧ 0 ≤ i ∧ i ≤ 1000 ∧ z.length ≤ 1000 ∧ Q (.str (Txt.mul z i)) H) := by
  intro pins s σ H x y v u Q I rx ry h
  obtain ⟨z, i, rfl, rfl, h0, h1, hz, q⟩ := h
  obtain ⟨t, rfl⟩ := rx
  obtain ⟨t', rfl⟩ := ry
  refine SB.mul ⟨?_, fun a b => ?_, fun a b => ?_⟩ fun t2 k => ⟨.str (Txt.mul z i), H, I.tok _, ⟨_, rfl⟩, q⟩
  · simp only [Bool.or_eq_false_iff, decide_eq_false_iff_not]
    omega
  · have : (1000 : Int) ≤ (2 ^ 63 - 1) / i := by
      rw [Int.le_ediv_iff_mul_le (by omega)]
      omega
    omega
  · have hm : z.length * i.toNat ≤ 1000 * 1000 := Nat.mul_le_mul hz (by omega)
    unfold Builtin.Str.tooLong
    have e : sizeLine = 16777216 := sizeLine_eq
    simp only [decide_eq_false_iff_not]
    omega
/-! ### targets, finally -/
/-- o.f as a target -/
def gFld (K : PySem.W.Frag) (ta : TE) (f : Str) : TG := fun v σ H Q => ta σ H fun x H1 => ∃ a C dx fs, x = .ref a ∧ H1 a = some (.ins C dx fs) ∧ Cls K C ∧ NoAttr K C f ∧ fs.length < 1000 ∧ Q σ (upd H1 a (.ins C dx (putF f v fs)))
theorem pg_fld {o : Expr} {f : Str} {ta : TE} {pos : Pos} (ha : PE X o ta) : PG X (.Attribute o f pos) (gFld X.K ta f) := by
  refine ⟨fun pins s σ H v u Q I r h => ?_⟩
  rw [arm_assign_Attribute]
  refine wpAny_bind (wpAny_holding (thn (ha.run pins s σ H _ I h) fun ov s1 ⟨x, H1, I1, rx, q1⟩ => ?_))
  obtain ⟨a, C, dx, fs, rfl, ea, c, n, l, q⟩ := q1
  obtain rfl : ov = Value.ref a := rx
  refine wpAny_bind (wpAny_standAt (wpAny_bind (wpAny_holding (setattr_ok I1 ea c n l r fun s2 I2 => ?_))))
  exact wpAny_release ⟨σ, _, I2, q⟩
/-- try: a suite that lets nothing out, and no return within; finally: another -/
def tFinN (tb tf : TS) : TS := fun D σ H => tb { nx := tf D, rt := fun _ _ => False } σ H
theorem ps_finN {body : List Stmt} {f₀ : Stmt} {fs : List Stmt} {pos : Pos} {tb tf : TS} (hb : PSs X.nox body tb) (hf : PSs X.nox (f₀ :: fs) tf) : PS X (.Try body [] [] (f₀ :: fs) pos) (tFinN tb tf) := by
  refine ⟨fun pins s σ H D I h => ?_⟩
  refine wpAny_Try_finally (wpAny_mono (hb.run pins s σ H _ (I.wish _) h) (fun g s1 z => ?_) fun _ _ z => False.elim z)
  cases g with
  | next =>
    obtain ⟨σ1, H1, I1, q1⟩ := z
    refine wpAny_execs_nil ?_
    refine wpAny_mono (hf.run pins s1 σ1 H1 D I1 q1) (fun g2 s2 q => ?_) fun _ _ z => False.elim z
    have q' : SP X pins D g2 s2 := SP.unwish q
    cases g2 with
    | next => exact q'
    | ret w2 => exact q'
    | brk => exact q'
    | cont => exact q'
  | ret u =>
    obtain ⟨_, _, _, _, _, z⟩ := z
    exact z.elim
  | brk =>
    obtain ⟨_, _, _, z⟩ := z
    exact z.elim
  | cont =>
    obtain ⟨_, _, _, z⟩ := z
    exact z.elim
end
/-! ### tuples of which the one is the beginning of the other -/
section
variable {prog : Program} {w : World} {A : Around} {R : Result → Shared → Prop}
theorem tuple_eqZ (l b : Addr) (items items2 : Array Value) (n n2 : Nat) (dd dd2 : Option Addr) (sl sl2 : Array (Option Value)) (h0 : items2.size = 0) {s : Shared}
    (hl1 : s.heap.get? l = some { cls := .type "tuple", dict := dd, data := .seq items n, slots := sl }) (hb1 : s.heap.get? b = some { cls := .type "tuple", dict := dd2, data := .seq items2 n2, slots := sl2 })
    (fin : R (.ok (.ret (.bool (items.size == 0)))) s) : wpAny (model prog w) A.in1 (Builtin.«tuple.__eq__» ⟨[.ref l, .ref b], []⟩) (GQ.FinOf prog w A R) (fun e s' => R (.error e) s') s := by
  have f2 := AutoSeq1.sub_tuple_tuple
  have e2 : items2 = #[] := Array.eq_empty_of_size_eq_zero h0
  subst e2
  obtain ⟨hp, g, d, tk, os⟩ := s
  wp_walk using wpAny_loadPart' hl1, wpAny_loadPart' hb1, wpAny_forIn_list _ (fun rest b s' => b.1 = none ∧ rest = [] ∧ s' = ⟨hp, g, d, tk, os⟩) _
  case turn =>
    rintro ⟨y, x⟩ rest b s' ⟨_, hz, _⟩
    cases hz
  case fin =>
    rintro ⟨b1, b2⟩ s' ⟨hb', _, rfl⟩
    simp only at hb'
    subst hb'
    wp_walk
    exact fin
  case h =>
    exact ⟨rfl, by simp, rfl⟩
end
section
variable {X : Cx}
/-- t == () -/
theorem op_eqNil (hu : X.A.units < cLine) : OpR X (compareOp .Eq) (fun x y H Q => ∃ a b xs, x = .ref a ∧ y = .ref b ∧ SqT X.K H a xs ∧ SqT X.K H b [] ∧ Q (.bl xs.isEmpty) H) := by
  intro pins s σ H x y v u Q I rx ry h
  obtain ⟨a, b, xs, rfl, rfl, ha, hb, q⟩ := h
  cases rx
  cases ry
  obtain ⟨its, r, e, z⟩ := I.tuple ha
  obtain ⟨its2, r2, e2, z2⟩ := I.tuple hb
  have hl := r.length
  cases r2
  obtain ⟨⟨cls, dd, data, sl⟩, ho, hc, n, hd⟩ := id e
  obtain ⟨⟨cls2, dd2, data2, sl2⟩, ho2, hc2, n2, hd2⟩ := id e2
  simp only at hc hd hc2 hd2
  subst hc hd hc2 hd2
  show wpAny (model X.prog X.w) X.A (richCompare .Eq (.ref a) (.ref b)) (EP X pins σ Q) X.xe s
  refine wpAny_richCompare_same_room (op := .Eq) ⟨_, ho, rfl⟩ ⟨_, ho2, rfl⟩ PySem.F.slot_tuple_eq (GQ.call_here PySem.F.slot_tuple_eq ⟨_, ho, rfl⟩ PySem.F.entry_tuple_eq (PySem.F.args_tuple_eq_2 _ _) ?_) hu
  refine tuple_eqZ (R := wants (fun v s' => v ≠ .notImplemented ∧ EP X pins σ Q v s') X.xe) a b its.toArray _ n n2 dd dd2 sl sl2 rfl ho ho2 ⟨(fun x => nomatch x), .bl xs.isEmpty, H, I, ?_, q⟩
  show Value.bool _ = Value.bool _
  congr 1
  rw [List.size_toArray, ← hl]
  cases xs <;> simp
end
end Kx
set_option Elab.async false
set_option linter.all false
set_option maxRecDepth 100000
set_option maxHeartbeats 4000000
namespace Kx
open PySem PySem.Spec PyProof.Rows L2
/-! ### actions, states -/
inductive Act where
  | arr (x : Str) (n : Int)
  | mrg (t : Tab)
  | ins (i : Nat) (x : Str) (n : Int)
  | rem (i : Nat)
  | sta (t : Tab)
def Act.word : Act → Str
  | .arr _ _ => "arrive"
  | .mrg _ => "merge"
  | .ins _ _ _ => "insert"
  | .rem _ => "remove"
  | .sta _ => "start"
def Act.size : Act → Nat
  | .arr _ _ => 3
  | .mrg _ => 2
  | .ins _ _ _ => 4
  | .rem _ => 2
  | .sta _ => 2
def ActI (K : PySem.W.Frag) (k : Nat) (H : Hp) (xs : List V) : Act → Prop
  | .arr x n => xs = [.str "arrive", .str x, .int n]
  | .mrg t => ∃ u, xs = [.str "merge", u] ∧ SumV K H u (k, t)
  | .ins i x n => xs = [.str "insert", .int i, .str x, .int n]
  | .rem i => xs = [.str "remove", .int i]
  | .sta t => ∃ u, xs = [.str "start", u] ∧ SumV K H u (k, t)
def ActV (K : PySem.W.Frag) (k : Nat) (H : Hp) (v : V) (a : Act) : Prop := ∃ p xs, v = .ref p ∧ SqT K H p xs ∧ ActI K k H xs a
abbrev Sta := Tab × List Row
def StV (K : PySem.W.Frag) (k : Nat) (H : Hp) (v : V) (q : Sta) : Prop := ∃ p b r, v = .ref p ∧ SqT K H p [b, r] ∧ SumV K H b (k, q.1) ∧ TupOf K (RowV K k) H r q.2
def RowOk (k : Nat) : Row → Prop
  | .run x n => IsNm x ∧ 1 ≤ n
  | .sum t => Cn k t
/-- may be done where there are m entries -/
def ActOk (k m : Nat) : Act → Prop
  | .arr x n => IsNm x ∧ 1 ≤ n
  | .mrg t => Cn k t
  | .ins i x n => i ≤ m ∧ IsNm x ∧ 1 ≤ n
  | .rem i => i < m
  | .sta t => Cn k t
def aft (q : Sta) : Act → Sta
  | .arr x n => (q.1, q.2 ++ [.run x n])
  | .mrg t => (q.1, q.2 ++ [.sum t])
  | .ins i x n => (q.1, q.2.take i ++ [.run x n] ++ q.2.drop i)
  | .rem i => (q.1, q.2.take i ++ q.2.drop (i + 1))
  | .sta t => (t, q.2)
structure StOk (k : Nat) (q : Sta) : Prop where
  b : Cn k q.1
  r : ∀ r ∈ q.2, RowOk k r
def step (k : Nat) (b : Tab) : Row → Tab
  | .run x n => arv k b x n
  | .sum t => mrg k b t
def cur (k : Nat) (q : Sta) : Tab := q.2.foldl (step k) q.1
section
variable {K : PySem.W.Frag} {C : Addr} {k : Nat} {H H' : Hp}
theorem acti_same {xs : List V} {a : Act} (s : Same H H') (h : ActI K k H xs a) : ActI K k H' xs a := match a, h with
  | .arr _ _, h => h
  | .mrg _, ⟨u, e, h⟩ => ⟨u, e, sum_same s h⟩
  | .ins _ _ _, h => h
  | .rem _, h => h
  | .sta _, ⟨u, e, h⟩ => ⟨u, e, sum_same s h⟩
theorem act_same {v : V} {a : Act} (s : Same H H') : ActV K k H v a → ActV K k H' v a := fun ⟨p, xs, e, h, i⟩ => ⟨p, xs, e, st_sm s h, acti_same s i⟩
theorem rows_same {v : V} {l : List Row} (s : Same H H') : TupOf K (RowV K k) H v l → TupOf K (RowV K k) H' v l := tup_same (fun _ _ => row_same s) s
theorem st_same {v : V} {q : Sta} (s : Same H H') : StV K k H v q → StV K k H' v q := fun ⟨p, b, r, e, h, h1, h2⟩ => ⟨p, b, r, e, st_sm s h, sum_same s h1, rows_same s h2⟩
end
section
variable {w : World} {K : PySem.W.Frag} {mg : Str → Option Value} {k : Nat}
theorem stb_act (T : Tx w K mg) : Stb (CC K) (ActV K k) := ⟨fun {H H' v a} s ⟨p, xs, e, h, i⟩ => ⟨p, xs, e, st_tv s h, match a, i with
  | .arr _ _, h => h
  | .mrg _, ⟨u, e, h⟩ => ⟨u, e, (stb_sum T).tv s h⟩
  | .ins _ _ _, h => h
  | .rem _, h => h
  | .sta _, ⟨u, e, h⟩ => ⟨u, e, (stb_sum T).tv s h⟩⟩⟩
theorem stb_st (T : Tx w K mg) : Stb (CC K) (StV K k) := ⟨fun s ⟨p, b, r, e, h, h1, h2⟩ => ⟨p, b, r, e, st_tv s h, (stb_sum T).tv s h1, (stb_tup (stb_row T)).tv s h2⟩⟩
end
/-! ### what a step keeps -/
theorem step_cn {k : Nat} {b : Tab} {r : Row} (hk : 1 ≤ k) (hb : Cn k b) (hr : RowOk k r) : Cn k (step k b r) := match r, hr with
  | .run _ _, h => arv_cn hk hb h.1 h.2
  | .sum _, h => mrg_cn hb.nm h.nm
theorem aft_ok {k : Nat} {q : Sta} {a : Act} (h : StOk k q) (ha : ActOk k q.2.length a) : StOk k (aft q a) := match a, ha with
  | .arr x n, ha => ⟨h.b, fun r hr => (List.mem_append.mp hr).elim (h.r r) fun z => List.mem_singleton.mp z ▸ ha⟩
  | .mrg t, ha => ⟨h.b, fun r hr => (List.mem_append.mp hr).elim (h.r r) fun z => List.mem_singleton.mp z ▸ ha⟩
  | .ins i x n, ha => ⟨h.b, fun r hr => (List.mem_append.mp hr).elim (fun z => (List.mem_append.mp z).elim (fun y => h.r r (List.mem_of_mem_take y)) fun y => List.mem_singleton.mp y ▸ ha.2) fun z => h.r r (List.mem_of_mem_drop z)⟩
  | .rem i, _ => ⟨h.b, fun r hr => (List.mem_append.mp hr).elim (fun y => h.r r (List.mem_of_mem_take y)) fun z => h.r r (List.mem_of_mem_drop z)⟩
  | .sta t, ha => ⟨ha, h.r⟩
/-! ### slices of data -/
section
variable {α : Type} {C : Addr} {K : PySem.W.Frag} {R : Hp → V → α → Prop} {H : Hp} {x : V} {l : List α} {Q : VK}
theorem slice_d (S : Stb C R) (h : TupOf K R H x l) {lo hi : Option Int} (q : ∀ u H', Same H H' → TupOf K R H' u ((l.drop (HT.sIx l.length 0 lo)).take (HT.sIx l.length l.length hi - HT.sIx l.length 0 lo)) → Q u H') : rSlA K x lo hi H Q := by
  obtain ⟨a, xs, rfl, ha, p⟩ := h
  have e := pd_len p
  refine ⟨a, xs, rfl, ha, fun w => q _ _ (Same.refl _) ⟨a, xs, rfl, ha, ?_⟩, fun _ p0 hp0 => q _ _ (sm_new hp0) ⟨p0, _, rfl, .inl (.inl upd_same), ?_⟩⟩
  · rw [e] at w
    rw [w.1, w.2, List.drop_zero, Nat.sub_zero, List.take_length]
    exact p
  · unfold cutV
    rw [e]
    exact pd_take _ (pd_drop _ (pd_imp (fun _ _ h => S.sm (sm_new hp0) h) p))
theorem sl_upto (S : Stb C R) (h : TupOf K R H x l) {i : Nat} (q : ∀ u H', Same H H' → TupOf K R H' u (l.take i) → Q u H') : rSlA K x none (some (i : Int)) H Q := slice_d S h fun u H' s hu => q u H' s (by
  rw [HT.sIx_none, HT.sIx_nat, List.drop_zero, Nat.sub_zero] at hu
  have e : l.take (min i l.length) = l.take i := by
    rw [← List.take_take]
    rw [List.take_length]
  rw [e] at hu
  exact hu)
theorem sl_from (S : Stb C R) (h : TupOf K R H x l) {i : Nat} (q : ∀ u H', Same H H' → TupOf K R H' u (l.drop i) → Q u H') : rSlA K x (some (i : Int)) none H Q := slice_d S h fun u H' s hu => q u H' s (by
  rw [HT.sIx_none, HT.sIx_nat] at hu
  have e : (l.drop (min i l.length)).take (l.length - min i l.length) = l.drop i := by
    rw [List.take_of_length_le (by rw [List.length_drop]; omega)]
    rcases Nat.le_total i l.length with z | z
    · rw [Nat.min_eq_left z]
    · rw [Nat.min_eq_right z, List.drop_length, List.drop_of_length_le z]
  rw [e] at hu
  exact hu)
/-- one in a tuple -/
theorem one_d (S : Stb C R) {u : V} {a : α} (h : R H u a) (q : ∀ p H', Same H H' → TupOf K R H' p [a] → Q p H') : ([u] : List V).length ≤ sizeLine ∧ ∀ p, H p = none → Q (.ref p) (upd H p (.tup [u])) :=
  ⟨by show 1 ≤ sizeLine; decide, fun p hp => q _ _ (sm_new hp) ⟨p, [u], rfl, .inl (.inl upd_same), .cons (S.sm (sm_new hp) h) .nil⟩⟩
end
section
variable {P : Program} {w : World} {K : PySem.W.Frag} {mg : Str → Option Value} {base : Heap}
theorem act_parts {k : Nat} {H : Hp} {xs : List V} {a : Act} (h : ActI K k H xs a) : ∃ r, xs = .str a.word :: r ∧ xs.length = a.size := match a, h with
  | .arr _ _, h => ⟨_, h, by rw [h]; rfl⟩
  | .mrg _, ⟨u, e, h⟩ => ⟨_, e, by rw [e]; rfl⟩
  | .ins _ _ _, h => ⟨_, h, by rw [h]; rfl⟩
  | .rem _, h => ⟨_, h, by rw [h]; rfl⟩
  | .sta _, ⟨u, e, h⟩ => ⟨_, e, by rw [e]; rfl⟩
theorem act_size (T : Tx w K mg) (a : Act) : ∃ u, PySem.W.nsIn K (He.ga K "ACTION_SIZES") a.word = some (some u) ∧ RelV (.int a.size) u := by
  have h := T.x_vals
  cases a with
  | arr x n => exact He.valsB_ok h (q := ("arrive", .int 3)) (by simp)
  | mrg t => exact He.valsB_ok h (q := ("merge", .int 2)) (by simp)
  | ins i x n => exact He.valsB_ok h (q := ("insert", .int 4)) (by simp)
  | rem i => exact He.valsB_ok h (q := ("remove", .int 2)) (by simp)
  | sta t => exact He.valsB_ok h (q := ("start", .int 2)) (by simp)
def spIsAct : Sp := fun vs H Q _ => ∃ (v : V) (k : Nat) (a : Act), vs = [v] ∧ ActV K k H v a ∧ ∀ H', Same H H' → Q (.bl true) H'
theorem ok_is_action (T : Tx w K mg) : Fn1 P w K mg base 1 "is_action" ["thing"] [] (spIsAct (K := K)) := by
  refine T.E_is_action (fun vs H Q E h => ?_) (fun cdv A outer s H vs Q E hr h => ?_)
  · obtain ⟨_, _, _, rfl, _⟩ := h
    rfl
  obtain ⟨v, k, a, rfl, ⟨p, xs, rfl, hp, hi⟩, fin⟩ := h
  obtain ⟨r, rfl, hz⟩ := act_parts hi
  obtain ⟨es, n, KD⟩ := T.x_tab
  obtain ⟨u, hu, ru⟩ := act_size T a
  refine ⟨_, pss_cons (ps_if (pw_or (pt_not (pt_val (pe_callB call_isi (by rfl) T.b_isinstance bt_isi (pa_cons (pv 0) (pa_cons (pe_bltn (v := .ty "tuple") (by rfl) T.b_tuple bt_tuple rfl) pa_nil)))))
      (pw_or (pt_cmpR (op_eqNil hr.units0) (pv 0) (pe_tup pa_nil) (nomark _)) (pw_or1 (pt_not (pt_val (pe_callB call_isi (by rfl) T.b_isinstance bt_isi (pa_cons (pe_ix ix_tup (pv 0) pe_int (fun _ _ => rfl)) (pa_cons (pe_bltn (v := .ty "str") (by rfl) T.b_str bt_str rfl) pa_nil)))))))).pt (pss_one (ps_ret pe_bl)) pss_nil)
    (pss_one (ps_ret (pe_and (pe_cmpR (op_in_kd KD) (pe_ix ix_tup (pv 0) pe_int (fun _ _ => rfl)) (pe_glob (v := .ref (He.ga K "ACTION_SIZES")) (by rfl) T.m_ACTION_SIZES rfl) rfl)
      (pe_one (pe_cmpR op_eq (pe_callB call_len_seq rfl T.b_len bt_len (pa_cons (pv 0) pa_nil)) (pe_ix ix_kdict (pe_glob (v := .ref (He.ga K "ACTION_SIZES")) (by rfl) T.m_ACTION_SIZES rfl) (pe_ix ix_tup (pv 0) pe_int (fun _ _ => rfl)) (fun _ _ => rfl)) (nomark _)))))), ?_⟩
  refine ⟨_, rfl, _, _, _, _, true, rfl, .ty "tuple", ty_tup hp, kit_ty (by decide +kernel), true, rfl, iteF ⟨_, rfl, Nat.zero_le _, fun p0 hp0 => ?_⟩⟩
  have s1 : Same H (upd H p0 (.tup [])) := sm_new hp0
  have h1 := st_sm s1 hp
  refine ⟨p, p0, _, rfl, rfl, h1, .inl (.inl upd_same), _, rfl, iteF ⟨_, rfl, p, _, 0, _, rfl, rfl, h1, atI_nat (j := 0) rfl, _, _, _, _, true, rfl, .ty "str", .base (.str a.word), kit_ty (by decide +kernel), true, rfl, iteF ?_⟩⟩
  refine ⟨_, rfl, p, _, 0, _, rfl, rfl, h1, atI_nat (j := 0) rfl, a.word, _, rfl, rfl, hu, true, rfl, iteT ⟨_, rfl, p, _, rfl, .inr h1, _, rfl, p, _, 0, _, rfl, rfl, h1, atI_nat (j := 0) rfl, _, a.word, .int a.size, rfl, rfl, ⟨es, n, u, KD.at_, KD.lit, hu, ru⟩, rfl, ?_⟩⟩
  exact bl_t (by rw [hz]; simp) (fin _ s1)
def spCheckActs : Sp := fun vs H Q _ => ∃ (v : V) (k : Nat) (l : List Act), vs = [v] ∧ TupOf K (ActV K k) H v l ∧ ∀ H', Same H H' → Q .non H'
theorem ok_check_actions (T : Tx w K mg) : Fn1 P w K mg base 2 "check_actions" ["actions"] [] (spCheckActs (K := K)) := by
  refine T.E_check_actions (fun vs H Q E h => ?_) (fun cdv A outer s H vs Q E hr h => ?_)
  · obtain ⟨_, _, _, rfl, _⟩ := h
    rfl
  obtain ⟨v, k, l, rfl, ⟨a, xs, rfl, ha, hp⟩, fin⟩ := h
  refine ⟨_, pss_cons (ps_if (pt_not (pt_val (pe_callB call_isi rfl T.b_isinstance bt_isi (pa_cons (pv 0) (pa_cons (pe_bltn (v := .ty "tuple") rfl T.b_tuple bt_tuple rfl) pa_nil))))) pss_never pss_nil)
    (pss_one (ps_for PassesOwn.never rfl (pi_enumT rfl T.b_enumerate (pa_cons (pv 0) pa_nil)) (pg_tup rfl (pgs_cons (pg_name (i := 1) sc_check_actions.nd rfl (Or.inl rfl)) (pgs_cons (pg_name (i := 2) sc_check_actions.nd rfl (Or.inl rfl)) pgs_nil)))
      (pss_one (ps_if (pt_not (pt_val (pe_f (ok_is_action T) hr (pa_cons (pv 2) pa_nil)))) pss_never pss_nil)))), ?_⟩
  refine ⟨_, rfl, _, _, _, _, true, rfl, .ty "tuple", ty_tup ha, kit_ty (by decide +kernel), true, rfl, iteF ⟨_, rfl, a, xs, rfl, ha, ?_⟩⟩
  refine for_it walk_enumT (fun i σ H' => Same H H' ∧ ∃ x y, σ = [some (.ref a), x, y]) ⟨Same.refl _, none, none, rfl⟩ (fun i σ H' _ p => st_sm p.1 ha) (fun i x σ H1 H2 hi p y => ?_) fun σ H1 p => fin H1 p.1
  obtain ⟨s1, x0, y0, rfl⟩ := p
  obtain ⟨T0, j, v, rfl, hT, rfl, ej, ev⟩ := y
  cases ej
  obtain ⟨q, eq, hq⟩ := pd_get hp ev
  have s2 : Same H1 (upd H1 T0 (.tup [.int i, v])) := sm_new hT
  exact ⟨T0, _, rfl, .inl (.inl upd_same), rfl, _, _, rfl, _, _, rfl, rfl, _, rfl, v, k, q, rfl, act_same (s1.trans s2) hq, fun H3 s3 => ⟨true, rfl, iteF ⟨(s1.trans s2).trans s3, _, _, rfl⟩⟩⟩
def spCheckIx : Sp := fun vs H Q _ => ∃ i m : Int, vs = [.int i, .int m] ∧ 0 ≤ i ∧ i ≤ m ∧ Q .non H
theorem ok_check_index (T : Tx w K mg) : Fn1 P w K mg base 3 "check_index" ["index", "most"] [] spCheckIx := by
  refine T.E_check_index (fun vs H Q E h => ?_) (fun cdv A outer s H vs Q E hr h => ?_)
  · obtain ⟨_, _, rfl, _⟩ := h
    rfl
  obtain ⟨i, m, rfl, h1, h2, fin⟩ := h
  refine ⟨_, pss_one (ps_if (pt_not (pt_val (pe_f (ok_is_between T) hr (pa_cons (pv 0) (pa_cons pe_int (pa_cons (pv 1) pa_nil)))))) pss_never pss_nil), ?_⟩
  exact ⟨_, rfl, _, rfl, i, 0, m, rfl, h1, h2, true, rfl, iteF fin⟩
def spCheckRun : Sp := fun vs H Q _ => ∃ (x : Str) (n : Int), vs = [.str x, .int n] ∧ IsNm x ∧ 1 ≤ n ∧ ∀ H', Same H H' → Q .non H'
theorem ok_check_run (T : Tx w K mg) : Fn1 P w K mg base 3 "check_run" ["name", "times"] [] spCheckRun := by
  refine T.E_check_run (fun vs H Q E h => ?_) (fun cdv A outer s H vs Q E hr h => ?_)
  · obtain ⟨_, _, rfl, _⟩ := h
    rfl
  obtain ⟨x, n, rfl, h1, h2, fin⟩ := h
  refine ⟨_, pss_cons (ps_expr (pe_f (ok_check_name T) hr (pa_cons (pv 0) pa_nil))) (pss_one (ps_if (pt_not (pt_val (pe_f (ok_is_from T) hr (pa_cons (pv 1) (pa_cons pe_int pa_nil))))) pss_never pss_nil)), ?_⟩
  refine ⟨_, rfl, x, rfl, h1, fun H1 s1 => ⟨_, rfl, n, 1, rfl, _, rfl, ?_⟩⟩
  rw [decide_eq_true h2]
  exact iteF (fin H1 s1)
def spCheckSame : Sp := fun vs H Q _ => ∃ (k : Nat) (v : V) (t : Tab), vs = [.int k, v] ∧ SumV K H v (k, t) ∧ Q .non H
theorem ok_check_same (T : Tx w K mg) : Fn1 P w K mg base 3 "check_same" ["capacity", "summary"] [] (spCheckSame (K := K)) := by
  refine T.E_check_same (fun vs H Q E h => ?_) (fun cdv A outer s H vs Q E hr h => ?_)
  · obtain ⟨_, _, _, rfl, _⟩ := h
    rfl
  obtain ⟨k, v, t, rfl, hv, fin⟩ := h
  have hv0 := hv
  obtain ⟨p, dx, c, rfl, h1, _⟩ := hv
  refine ⟨_, pss_cons (ps_expr (pe_f (ok_check_summary T) hr (pa_cons (pv 1) pa_nil))) (pss_one (ps_if (pt_cmpR op_ne (pe_fld (pv 1) rfl) (pv 0) (nomark _)) pss_never pss_nil)), ?_⟩
  refine ⟨_, rfl, _, (k, t), rfl, hv0, _, rfl, p, _, dx, _, _, rfl, h1, T.c_Summary, T.n_Summary_capacity, lk_c0, _, rfl, rfl, _, rfl, ?_⟩
  rw [decide_eq_true rfl]
  exact iteF fin
end
end Kx
set_option Elab.async false
set_option linter.all false
set_option maxRecDepth 100000
set_option maxHeartbeats 4000000
namespace Kx
open PySem PySem.Spec PyProof.Rows L2
def Act.adds : Act → Bool
  | .arr _ _ => true
  | .mrg _ => true
  | .ins _ _ _ => true
  | _ => false
theorem w_eq {x y : Str} {b : Bool} (h : (x == y) = b) : V.bl (decide (V.str x = V.str y)) = V.bl b := congrArg V.bl (dec_str.trans h)
section
variable {P : Program} {w : World} {K : PySem.W.Frag} {mg : Str → Option Value} {base : Heap}
theorem stb_row0 {K : PySem.W.Frag} {k : Nat} : ∀ {H H' : Hp} {v : V} {r : Row}, Same H H' → RowV K k H v r → RowV K k H' v r := fun s h => row_same s h
def spMoreRows : Sp := fun vs H Q _ => ∃ (k : Nat) (rv av : V) (rows : List Row) (a : Act), vs = [.int k, rv, av] ∧ TupOf K (RowV K k) H rv rows ∧ ActV K k H av a ∧ ActOk k rows.length a ∧ a.adds = true ∧ rows.length ≤ 200 ∧
  ∀ u H', Same H H' → TupOf K (RowV K k) H' u (aft ([], rows) a).2 → Q u H'
theorem ok_more_rows (T : Tx w K mg) : Fn1 P w K mg base 4 "more_rows" ["capacity", "rows", "action"] [] (spMoreRows (K := K)) := by
  refine T.E_more_rows (fun vs H Q E h => ?_) (fun cdv A outer s H vs Q E hr h => ?_)
  · obtain ⟨_, _, _, _, _, rfl, _⟩ := h
    rfl
  obtain ⟨k, rv, av, rows, a, rfl, hrows, ⟨p, xs, rfl, hp, hi⟩, hok, hadd, hz, fin⟩ := h
  have S := stb_row (k := k) T
  refine ⟨_, pss_cons (ps_asg (pv 2) (pg_star (k := 1) (j := 0) rfl (pgs_cons (pg_name (i := 3) sc_more_rows.nd rfl (Or.inl rfl)) (pgs_star (pg_name (i := 4) sc_more_rows.nd rfl (Or.inl rfl)) pgs_nil))))
    (pss_cons (ps_if (pt_cmpR op_eq (pv 3) pe_str (nomark _)) (pss_cons (ps_expr (pe_f (ok_check_same T) hr (pa_cons (pv 0) (pa_cons (pe_ix ix_list (pv 4) pe_int (fun _ _ => rfl)) pa_nil))))
      (pss_one (ps_ret (pe_op op_catA (pv 1) (pe_tup (pa_cons (pe_ix ix_list (pv 4) pe_int (fun _ _ => rfl)) pa_nil)))))) pss_nil)
    (pss_cons (ps_if (pt_cmpR op_eq (pv 3) pe_str (nomark _)) (pss_cons (ps_expr (pe_f (ok_check_run T) hr (pa_cons (pe_ix ix_list (pv 4) pe_int (fun _ _ => rfl)) (pa_cons (pe_ix ix_list (pv 4) pe_int (fun _ _ => rfl)) pa_nil))))
      (pss_one (ps_ret (pe_op op_catA (pv 1) (pe_tup (pa_cons (pe_tup (pa_cons (pe_ix ix_list (pv 4) pe_int (fun _ _ => rfl)) (pa_cons (pe_ix ix_list (pv 4) pe_int (fun _ _ => rfl)) pa_nil))) pa_nil)))))) pss_nil)
    (pss_cons (ps_asg (pv 4) (pg_unl rfl (pgs_cons (pg_name (i := 5) sc_more_rows.nd rfl (Or.inl rfl)) (pgs_cons (pg_name (i := 6) sc_more_rows.nd rfl (Or.inl rfl)) (pgs_cons (pg_name (i := 7) sc_more_rows.nd rfl (Or.inl rfl)) pgs_nil)))))
    (pss_cons (ps_expr (pe_f (ok_check_index T) hr (pa_cons (pv 5) (pa_cons (pe_callB call_len_seq rfl T.b_len bt_len (pa_cons (pv 1) pa_nil)) pa_nil))))
    (pss_cons (ps_expr (pe_f (ok_check_run T) hr (pa_cons (pv 6) (pa_cons (pv 7) pa_nil))))
    (pss_one (ps_ret (pe_op op_catA (pe_op op_catA (pe_slice sl_tupA (pv 1) po_none (po_some (pv 5))) (pe_tup (pa_cons (pe_tup (pa_cons (pv 6) (pa_cons (pv 7) pa_nil))) pa_nil))) (pe_slice sl_tupA (pv 1) (po_some (pv 5)) po_none))))))))), ?_⟩
  obtain ⟨r, rfl, hsz⟩ := act_parts hi
  have hlen : 1 + 0 ≤ (V.str a.word :: r).length := by simp
  refine ⟨_, rfl, p, _, rfl, hp, hlen, fun l hl => ⟨_, _, rfl, _, _, rfl, by simp, ?_⟩⟩
  have e0 : (((V.str a.word :: r).drop 1).take ((V.str a.word :: r).length - 1 - 0)) = r := by simp
  rw [e0]
  have s1 : Same H (upd H l (.lst r)) := sm_new hl
  have hL : SqL K (upd H l (.lst r)) l r := SqL.of upd_same
  have rows1 := (stb_tup S).tv (sm_tv s1) hrows
  generalize hH1 : upd H l (HO.lst r) = H1 at s1 hL rows1 ⊢
  have parts : (∃ t u, a.word = "merge" ∧ r = [u] ∧ SumV K H u (k, t) ∧ (aft ([], rows) a).2 = rows ++ [.sum t]) ∨ (∃ x n, a.word = "arrive" ∧ r = [.str x, .int n] ∧ IsNm x ∧ 1 ≤ n ∧ (aft ([], rows) a).2 = rows ++ [.run x n]) ∨
      ∃ (i : Nat) (x : Str) (n : Int), a.word = "insert" ∧ r = [.int i, .str x, .int n] ∧ i ≤ rows.length ∧ IsNm x ∧ 1 ≤ n ∧ (aft ([], rows) a).2 = rows.take i ++ [.run x n] ++ rows.drop i := by
    clear fin hp hlen e0 s1 hL rows1 hsz
    cases a with
    | arr x n => exact .inr (.inl ⟨x, n, rfl, (List.cons.inj hi).2, hok.1, hok.2, rfl⟩)
    | mrg t =>
      obtain ⟨u, e, hu⟩ := hi
      exact .inl ⟨t, u, rfl, (List.cons.inj e).2, hu, rfl⟩
    | ins i x n => exact .inr (.inr ⟨i, x, n, rfl, (List.cons.inj hi).2, hok.1, hok.2.1, hok.2.2, rfl⟩)
    | rem i => cases hadd
    | sta t => cases hadd
  rcases parts with ⟨t, u, hw, er, hu, ef⟩ | ⟨x, n, hw, er, hx, hn, ef⟩ | ⟨i, x, n, hw, er, hil, hx, hn, ef⟩
  · rw [ef] at fin
    rw [er] at hL
    have hu1 := sum_same s1 hu
    refine ⟨_, rfl, rfl, _, w_eq (b := true) (by rw [hw]; decide +kernel), iteT ⟨_, rfl, _, rfl, l, _, 0, _, rfl, rfl, hL, atI_nat (j := 0) rfl, k, u, t, rfl, hu1, _, rfl, _, rfl, l, _, 0, _, rfl, rfl, hL, atI_nat (j := 0) rfl, ?_⟩⟩
    exact one_d S (a := Row.sum t) hu1 fun q H2 s2 hq => cat_d S ((stb_tup S).tv (sm_tv s2) rows1) hq (by show rows.length + 1 ≤ 1000; omega) fun v H3 s3 hv => fin v H3 (s1.trans (s2.trans s3)) hv
  · rw [ef] at fin
    rw [er] at hL
    refine ⟨_, rfl, rfl, _, w_eq (b := false) (by rw [hw]; decide +kernel), iteF ⟨_, rfl, rfl, _, w_eq (b := true) (by rw [hw]; decide +kernel), iteT ⟨_, rfl, l, _, 0, _, rfl, rfl, hL, atI_nat (j := 0) rfl, _, rfl, l, _, 1, _, rfl, rfl, hL, atI_nat (j := 1) rfl, x, n, rfl, hx, hn, fun H2 s2 => ?_⟩⟩⟩
    have hL2 := s2.seq hL
    refine ⟨_, rfl, _, rfl, l, _, 0, _, rfl, rfl, hL2, atI_nat (j := 0) rfl, _, rfl, l, _, 1, _, rfl, rfl, hL2, atI_nat (j := 1) rfl, by show 2 ≤ sizeLine; decide, fun q hq => ?_⟩
    have s3 : Same H2 (upd H2 q (.tup [.str x, .int n])) := sm_new hq
    exact one_d S (a := Row.run x n) (show RowV K k _ (.ref q) (.run x n) from ⟨q, rfl, .inl (.inl upd_same)⟩) fun q2 H3 s4 hq2 => cat_d S ((stb_tup S).tv (sm_tv (s2.trans (s3.trans s4))) rows1) hq2 (by show rows.length + 1 ≤ 1000; omega) fun v H4 s5 hv => fin v H4 (s1.trans (s2.trans (s3.trans (s4.trans s5)))) hv
  · rw [ef] at fin
    rw [er] at hL
    obtain ⟨a2, ys, rfl, ha2, hys⟩ := id rows1
    have hyl := pd_len hys
    refine ⟨_, rfl, rfl, _, w_eq (b := false) (by rw [hw]; decide +kernel), iteF ⟨_, rfl, rfl, _, w_eq (b := false) (by rw [hw]; decide +kernel), iteF ⟨_, rfl, l, _, rfl, hL, rfl, _, _, rfl, _, _, rfl, _, _, rfl, rfl, ?_⟩⟩⟩
    refine ⟨_, rfl, _, rfl, a2, ys, rfl, .inr ha2, (i : Int), (ys.length : Nat), rfl, by omega, by omega, _, rfl, _, rfl, x, n, rfl, hx, hn, fun H2 s2 => ?_⟩
    have rows2 := (stb_tup S).tv (sm_tv s2) rows1
    refine ⟨_, rfl, _, rfl, i, rfl, sl_upto S rows2 (i := i) fun u H3 s3 hu => ⟨_, rfl, _, rfl, by show 2 ≤ sizeLine; decide, fun q hq => ?_⟩⟩
    have s4 : Same H3 (upd H3 q (.tup [.str x, .int n])) := sm_new hq
    refine one_d S (a := Row.run x n) (show RowV K k _ (.ref q) (.run x n) from ⟨q, rfl, .inl (.inl upd_same)⟩) fun q2 H4 s5 hq2 => cat_d S ((stb_tup S).tv (sm_tv (s4.trans s5)) hu) hq2 (by show (rows.take i).length + 1 ≤ 1000; rw [List.length_take]; omega) fun v H5 s6 hv => ?_
    have rows5 := (stb_tup S).tv (sm_tv (s3.trans (s4.trans (s5.trans s6)))) rows2
    refine ⟨_, rfl, _, rfl, i, rfl, ?_⟩
    dsimp only [tNoPart]
    refine sl_from S rows5 (i := i) fun u2 H6 s7 hu2 => ?_
    exact cat_d S ((stb_tup S).tv (sm_tv s7) hv) hu2 (by rw [List.length_append, List.length_take, List.length_drop]; show _ + 1 + _ ≤ _; omega) fun v2 H7 s8 hv2 => fin v2 H7 (s1.trans (s2.trans (s3.trans (s4.trans (s5.trans (s6.trans (s7.trans s8))))))) hv2
def spStateAfter : Sp := fun vs H Q _ => ∃ (k : Nat) (sv av : V) (q : Sta) (a : Act), vs = [.int k, sv, av] ∧ StV K k H sv q ∧ ActV K k H av a ∧ ActOk k q.2.length a ∧ q.2.length ≤ 90 ∧
  ∀ u H', Same H H' → StV K k H' u (aft q a) → Q u H'
theorem ok_state_after (T : Tx w K mg) : Fn1 P w K mg base 5 "state_after" ["capacity", "state", "action"] [] (spStateAfter (K := K)) := by
  refine T.E_state_after (fun vs H Q E h => ?_) (fun cdv A outer s H vs Q E hr h => ?_)
  · obtain ⟨_, _, _, _, _, rfl, _⟩ := h
    rfl
  obtain ⟨k, sv, av, q, a, rfl, ⟨ps, b, rv, rfl, hps, hb, hrows⟩, hav, hok, hz, fin⟩ := h
  obtain ⟨p, xs, rfl, hp, hi⟩ := id hav
  have S := stb_row (k := k) T
  obtain ⟨tk, hm⟩ := T.i_MAX_ACTIONS
  refine ⟨_, pss_cons (ps_asg (pv 1) (pg_tup rfl (pgs_cons (pg_name (i := 3) sc_state_after.nd rfl (Or.inl rfl)) (pgs_cons (pg_name (i := 4) sc_state_after.nd rfl (Or.inl rfl)) pgs_nil))))
    (pss_cons (ps_if (pt_cmpR op_eq (pe_ix ix_tup (pv 2) pe_int (fun _ _ => rfl)) pe_str (nomark _)) (pss_cons (ps_expr (pe_f (ok_check_same T) (hr.mono (by decide)) (pa_cons (pv 0) (pa_cons (pe_ix ix_tup (pv 2) pe_int (fun _ _ => rfl)) pa_nil))))
      (pss_one (ps_ret (pe_tup (pa_cons (pe_ix ix_tup (pv 2) pe_int (fun _ _ => rfl)) (pa_cons (pv 4) pa_nil)))))) pss_nil)
    (pss_cons (ps_if (pt_cmpR op_eq (pe_ix ix_tup (pv 2) pe_int (fun _ _ => rfl)) pe_str (nomark _)) (pss_cons (ps_expr (pe_f (ok_check_index T) (hr.mono (by decide)) (pa_cons (pe_ix ix_tup (pv 2) pe_int (fun _ _ => rfl)) (pa_cons (pe_op op_sub (pe_callB call_len_seq rfl T.b_len bt_len (pa_cons (pv 4) pa_nil)) pe_int) pa_nil))))
      (pss_one (ps_ret (pe_tup (pa_cons (pv 3) (pa_cons (pe_op op_catA (pe_slice sl_tupA (pv 4) po_none (po_some (pe_ix ix_tup (pv 2) pe_int (fun _ _ => rfl)))) (pe_slice sl_tupA (pv 4) (po_some (pe_op op_add (pe_ix ix_tup (pv 2) pe_int (fun _ _ => rfl)) pe_int)) po_none)) pa_nil)))))) pss_nil)
    (pss_cons (ps_set (i := 4) sc_state_after.nd rfl (Or.inl rfl) (pe_f (ok_more_rows T) hr (pa_cons (pv 0) (pa_cons (pv 4) (pa_cons (pv 2) pa_nil)))))
    (pss_cons (ps_if (pt_cmpR op_gt (pe_callB call_len_seq rfl T.b_len bt_len (pa_cons (pv 4) pa_nil)) (pe_glob (v := .int 100) (by rfl) hm ⟨_, rfl⟩) (nomark _)) pss_never pss_nil)
    (pss_one (ps_ret (pe_tup (pa_cons (pv 3) (pa_cons (pv 4) pa_nil))))))))), ?_⟩
  obtain ⟨r, ex, hsz⟩ := act_parts hi
  refine ⟨_, rfl, ps, _, rfl, hps, rfl, _, _, rfl, _, _, rfl, rfl, ?_⟩
  have parts : (a.adds = true ∧ (a.word == ("start" : Str)) = false ∧ (a.word == ("remove" : Str)) = false ∧ (aft q a).1 = q.1 ∧ (aft q a).2 = (aft ([], q.2) a).2 ∧ (aft q a).2.length ≤ q.2.length + 1) ∨
      (∃ i : Nat, xs = [.str "remove", .int i] ∧ i < q.2.length ∧ aft q a = (q.1, q.2.take i ++ q.2.drop (i + 1))) ∨ ∃ t u, xs = [.str "start", u] ∧ SumV K H u (k, t) ∧ aft q a = (t, q.2) := by
    clear fin hp hb hps hrows hav ex
    cases a with
    | arr x n => exact .inl ⟨rfl, (by decide +kernel : (("arrive" : Str) == "start") = false), (by decide +kernel : (("arrive" : Str) == "remove") = false), rfl, rfl, by simp [aft]⟩
    | mrg t => exact .inl ⟨rfl, (by decide +kernel : (("merge" : Str) == "start") = false), (by decide +kernel : (("merge" : Str) == "remove") = false), rfl, rfl, by simp [aft]⟩
    | ins i x n => exact .inl ⟨rfl, (by decide +kernel : (("insert" : Str) == "start") = false), (by decide +kernel : (("insert" : Str) == "remove") = false), rfl, rfl, by simp [aft]; omega⟩
    | rem i => exact .inr (.inl ⟨i, hi, hok, rfl⟩)
    | sta t =>
      obtain ⟨u, e, hu⟩ := hi
      exact .inr (.inr ⟨t, u, e, hu, rfl⟩)
  rcases parts with ⟨ha, w1, w2, h1, h2, h3⟩ | ⟨i, er, hok', ef⟩ | ⟨t, u, er, hu, ef⟩
  · rw [ex] at hp
    refine ⟨_, rfl, p, _, 0, _, rfl, rfl, hp, atI_nat (j := 0) rfl, rfl, _, w_eq w1, iteF ⟨_, rfl, p, _, 0, _, rfl, rfl, hp, atI_nat (j := 0) rfl, rfl, _, w_eq w2, iteF ⟨_, rfl, _, rfl, _, rfl, k, rv, _, q.2, a, rfl, hrows, hav, hok, ha, by omega, fun u H1 s1 hu => ?_⟩⟩⟩
    rw [← h2] at hu
    obtain ⟨a2, ys, rfl, ha2, hys⟩ := id hu
    have hyl := pd_len hys
    refine ⟨_, rfl, a2, ys, rfl, .inr ha2, _, 100, rfl, rfl, _, rfl, ?_⟩
    rw [decide_eq_false (show ¬ ((100 : Int) < (ys.length : Nat)) by omega)]
    refine iteF ⟨_, rfl, _, rfl, by show 2 ≤ sizeLine; decide, fun p2 hp2 => ?_⟩
    have s2 : Same H1 (upd H1 p2 (.tup [b, .ref a2])) := sm_new hp2
    exact fin _ _ (s1.trans s2) ⟨p2, b, _, rfl, .inl (.inl upd_same), by rw [h1]; exact sum_same (s1.trans s2) hb, (stb_tup S).tv (sm_tv s2) hu⟩
  · rw [er] at hp
    rw [ef] at fin
    obtain ⟨a2, ys, rfl, ha2, hys⟩ := id hrows
    have hyl := pd_len hys
    refine ⟨_, rfl, p, _, 0, _, rfl, rfl, hp, atI_nat (j := 0) rfl, rfl, _, w_eq (b := false) (by decide +kernel), iteF ⟨_, rfl, p, _, 0, _, rfl, rfl, hp, atI_nat (j := 0) rfl, rfl, _, w_eq (b := true) (by decide +kernel), iteT ?_⟩⟩
    refine ⟨_, rfl, p, _, 1, _, rfl, rfl, hp, atI_nat (j := 1) rfl, _, rfl, a2, ys, rfl, .inr ha2, _, _, rfl, rfl, (i : Int), _, rfl, by omega, by omega, ?_⟩
    refine ⟨_, rfl, _, rfl, _, rfl, p, _, 1, _, rfl, rfl, hp, atI_nat (j := 1) rfl, i, rfl, sl_upto S hrows (i := i) fun u H1 s1 hu => ?_⟩
    have hp1 := st_sm s1 hp
    refine ⟨_, rfl, _, rfl, p, _, 1, _, rfl, rfl, hp1, atI_nat (j := 1) rfl, _, _, rfl, rfl, _, rfl, ?_⟩
    dsimp only [tNoPart]
    refine sl_from S (i := i + 1) ((stb_tup S).tv (sm_tv s1) hrows) fun u2 H2 s2 hu2 => ?_
    refine cat_d S ((stb_tup S).tv (sm_tv s2) hu) hu2 (by rw [List.length_take, List.length_drop]; omega) fun v H3 s3 hv => ⟨by show 2 ≤ sizeLine; decide, fun p2 hp2 => ?_⟩
    have s4 : Same H3 (upd H3 p2 (.tup [b, v])) := sm_new hp2
    have s5 := s1.trans (s2.trans (s3.trans s4))
    exact fin _ _ s5 ⟨p2, b, v, rfl, .inl (.inl upd_same), sum_same s5 hb, (stb_tup S).tv (sm_tv s4) hv⟩
  · rw [er] at hp
    rw [ef] at fin
    refine ⟨_, rfl, p, _, 0, _, rfl, rfl, hp, atI_nat (j := 0) rfl, rfl, _, w_eq (b := true) (by decide +kernel), iteT ?_⟩
    refine ⟨_, rfl, _, rfl, p, _, 1, _, rfl, rfl, hp, atI_nat (j := 1) rfl, k, u, t, rfl, hu, _, rfl, p, _, 1, _, rfl, rfl, hp, atI_nat (j := 1) rfl, _, rfl, by show 2 ≤ sizeLine; decide, fun p2 hp2 => ?_⟩
    have s4 : Same H (upd H p2 (.tup [u, rv])) := sm_new hp2
    exact fin _ _ s4 ⟨p2, u, rv, rfl, .inl (.inl upd_same), sum_same s4 hu, (stb_tup S).tv (sm_tv s4) hrows⟩
end
end Kx
set_option Elab.async false
set_option linter.all false
set_option maxRecDepth 100000
set_option maxHeartbeats 4000000
namespace Kx
open PySem PySem.Spec PyProof.Rows L2
section
variable {P : Program} {w : World} {K : PySem.W.Frag} {mg : Str → Option Value} {base : Heap}
theorem cur_snoc {k : Nat} {b : Tab} {l : List Row} {r : Row} : cur k (b, l ++ [r]) = step k (cur k (b, l)) r := by
  unfold cur
  rw [List.foldl_append]
  rfl
theorem cur_cn {k : Nat} {q : Sta} (hk : 1 ≤ k) (h : StOk k q) : Cn k (cur k q) := by
  have key : ∀ (l : List Row) (b : Tab), Cn k b → (∀ r ∈ l, RowOk k r) → Cn k (l.foldl (step k) b) := by
    intro l
    induction l with
    | nil => exact fun b h _ => h
    | cons r l ih => exact fun b h1 h2 => ih _ (step_cn hk h1 (h2 r (List.mem_cons_self ..))) fun r' h' => h2 r' (List.mem_cons_of_mem _ h')
  exact key q.2 q.1 h.b h.r
theorem lkS {a b : V} {m : Str} (h : notIn m ["capacity", "counts"] = true) : ([("capacity", a), ("counts", b)] : List (Str × V)).lookup m = none := lk_no h
def spCurrent : Sp := fun vs H Q _ => ∃ (k : Nat) (b rv : V) (q : Sta), vs = [b, rv] ∧ SumV K H b (k, q.1) ∧ TupOf K (RowV K k) H rv q.2 ∧ StOk k q ∧ 1 ≤ k ∧ k ≤ 8 ∧ ∀ u H', Same H H' → SumV K H' u (k, cur k q) → Q u H'
theorem ok_current_of (T : Tx w K mg) : Fn1 P w K mg base 8 "current_of" ["begin", "rows"] [] (spCurrent (K := K)) := by
  refine T.E_current_of (fun vs H Q E h => ?_) (fun cdv A outer s H vs Q E hr h => ?_)
  · obtain ⟨_, _, _, _, rfl, _⟩ := h
    rfl
  obtain ⟨k, b, rv, q, rfl, hb, ⟨a, xs, rfl, ha, hp⟩, hok, hk, hk8, fin⟩ := h
  have hl := pd_len hp
  refine ⟨_, pss_cons (ps_for PassesOwn.never rfl (pi_tup (pv 1)) (pg_name (i := 2) sc_current_of.nd rfl (Or.inl rfl))
      (pss_one (ps_set (i := 0) sc_current_of.nd rfl (Or.inl rfl) (pe_ifExp (pt_val (pe_f (ok_is_summary T) (hr.mono (by decide)) (pa_cons (pv 2) pa_nil))) (pe_m (ok_SMerged T) hr (pv 0) (pa_cons (pv 2) pa_nil))
        (pe_m (ok_SArrive T) hr (pv 0) (pa_cons (pe_ix ix_tup (pv 2) pe_int (fun _ _ => rfl)) (pa_cons (pe_ix ix_tup (pv 2) pe_int (fun _ _ => rfl)) pa_nil)))))))
    (pss_one (ps_ret (pv 0))), ?_⟩
  refine ⟨_, rfl, a, rfl, ⟨xs, ha⟩, ?_⟩
  refine for_it walk_tup (fun i σ H' => Same H H' ∧ ∃ u x, σ = [some u, some (.ref a), x] ∧ SumV K H' u (k, cur k (q.1, q.2.take i))) ⟨Same.refl _, b, none, rfl, hb⟩ (fun i σ H' _ p => st_sm p.1 ha) (fun i x σ H1 H2 hi p y => ?_) fun σ H1 p => ?_
  · obtain ⟨s1, u, x0, rfl, hu⟩ := p
    obtain ⟨rfl, ex⟩ := y
    obtain ⟨r, er, hr'⟩ := pd_get hp ex
    have et : q.2.take (i + 1) = q.2.take i ++ [r] := by
      rw [List.take_succ, er]
      rfl
    have rok := hok.r r (List.mem_of_getElem? er)
    have cok : Cn k (cur k (q.1, q.2.take i)) := cur_cn hk ⟨hok.b, fun r hr => hok.r r (List.mem_of_mem_take hr)⟩
    have hx := row_same s1 hr'
    have hu0 := hu
    obtain ⟨pu, du, cu, rfl, hpu, _⟩ := hu
    refine ⟨_, rfl, x, k, r, rfl, hx, r.isS, rfl, ?_⟩
    have goal1 : ∀ v H3, Same H2 H3 → SumV K H3 v (k, step k (cur k (q.1, q.2.take i)) r) → Same H H3 ∧ ∃ u y, ([some (.ref pu), some (.ref a), some x] : L2.St).set 0 (some v) = [some u, some (.ref a), y] ∧ SumV K H3 u (k, cur k (q.1, q.2.take (i + 1))) := fun v H3 s3 hv => ⟨s1.trans s3, v, some x, rfl, by rw [et, cur_snoc]; exact hv⟩
    cases r with
    | run y n =>
      obtain ⟨t, rfl, ht⟩ := hx
      exact iteF ⟨_, rfl, pu, du, _, rfl, hpu, lkS (by decide +kernel), _, rfl, t, _, 0, _, rfl, rfl, ht, atI_nat (j := 0) rfl, _, rfl, t, _, 1, _, rfl, rfl, ht, atI_nat (j := 1) rfl, _, k, _, y, n, rfl, hu0, cok, hk, hk8, rok.1, rok.2, goal1⟩
    | sum t => exact iteT ⟨_, rfl, pu, du, _, rfl, hpu, lkS (by decide +kernel), _, rfl, _, x, k, _, t, rfl, hu0, hx, cok, rok, hk, hk8, goal1⟩
  · obtain ⟨s1, u, x0, rfl, hu⟩ := p
    rw [hl, List.take_length] at hu
    exact ⟨_, rfl, fin u _ s1 hu⟩
/-! ### the Collector -/
def fl (k : Nat) (b r pv : V) (busy : Bool) (n : Int) : List (Str × V) := [("capacity", .int k), ("begin", b), ("rows", r), ("past", pv), ("busy", .bl busy), ("attempts", .int n)]
section
variable {k : Nat} {b r pv v : V} {busy c : Bool} {n m : Int}
theorem fl_capacity : (fl k b r pv busy n).lookup ("capacity" : Str) = some (.int k) := by kernel_rfl
theorem fl_begin : (fl k b r pv busy n).lookup ("begin" : Str) = some b := by kernel_rfl
theorem fl_rows : (fl k b r pv busy n).lookup ("rows" : Str) = some r := by kernel_rfl
theorem fl_past : (fl k b r pv busy n).lookup ("past" : Str) = some pv := by kernel_rfl
theorem fl_busy : (fl k b r pv busy n).lookup ("busy" : Str) = some (.bl busy) := by kernel_rfl
theorem fl_attempts : (fl k b r pv busy n).lookup ("attempts" : Str) = some (.int n) := by kernel_rfl
theorem fl_no {m : Str} (h : notIn m ["capacity", "begin", "rows", "past", "busy", "attempts"] = true) : (fl k b r pv busy n).lookup m = none := lk_no h
theorem pf_begin : putF "begin" v (fl k b r pv busy n) = fl k v r pv busy n := by kernel_rfl
theorem pf_rows : putF "rows" v (fl k b r pv busy n) = fl k b v pv busy n := by kernel_rfl
theorem pf_past : putF "past" v (fl k b r pv busy n) = fl k b r v busy n := by kernel_rfl
theorem pf_busy : putF "busy" (.bl c) (fl k b r pv busy n) = fl k b r pv c n := by kernel_rfl
theorem pf_attempts : putF "attempts" (.int m) (fl k b r pv busy n) = fl k b r pv busy m := by kernel_rfl
theorem fl_few : (fl k b r pv busy n).length < 1000 := by show 6 < 1000; decide
end
/-- an action done, and the state ahead of it -/
def PastV (K : PySem.W.Frag) (k : Nat) (H : Hp) (v : V) (q : Act × Sta) : Prop := ∃ p av sv, v = .ref p ∧ SqT K H p [av, sv] ∧ ActV K k H av q.1 ∧ StV K k H sv q.2
theorem past_same {k : Nat} {H H' : Hp} {v : V} {q : Act × Sta} (s : Same H H') : PastV K k H v q → PastV K k H' v q := fun ⟨p, av, sv, e, h, h1, h2⟩ => ⟨p, av, sv, e, st_sm s h, act_same s h1, st_same s h2⟩
theorem stb_past (T : Tx w K mg) {k : Nat} : Stb (CC K) (PastV K k) := ⟨fun s ⟨p, av, sv, e, h, h1, h2⟩ => ⟨p, av, sv, e, st_tv s h, (stb_act T).tv s h1, (stb_st T).tv s h2⟩⟩
structure Col where
  q : Sta
  past : List (Act × Sta)
  busy : Bool
  n : Int
/-- a Collector of k places stands at p -/
def ColAt (K : PySem.W.Frag) (k : Nat) (H : Hp) (p : Addr) (c : Col) : Prop := ∃ dx b r pv, H p = some (.ins (CC K) dx (fl k b r pv c.busy c.n)) ∧ SumV K H b (k, c.q.1) ∧ TupOf K (RowV K k) H r c.q.2 ∧ TupOf K (PastV K k) H pv c.past
theorem col_same {k : Nat} {H H' : Hp} {p : Addr} {c : Col} (s : Same H H') : ColAt K k H p c → ColAt K k H' p c := fun ⟨dx, b, r, pv, h, h1, h2, h3⟩ => ⟨dx, b, r, pv, s _ _ h, sum_same s h1, rows_same s h2, tup_same (fun _ _ => past_same s) s h3⟩
theorem col_tv (T : Tx w K mg) {k : Nat} {H H' : Hp} {p : Addr} {c : Col} (s : Tv (CC K) H H') (e : ∀ o, H p = some o → H' p = some o) : ColAt K k H p c → ColAt K k H' p c := fun ⟨dx, b, r, pv, h, h1, h2, h3⟩ => ⟨dx, b, r, pv, e _ h, (stb_sum T).tv s h1, (stb_tup (stb_row T)).tv s h2, (stb_tup (stb_past T)).tv s h3⟩
theorem ins_tv {H H' : Hp} {p dx : Addr} {fs : List (Str × V)} (h : H p = some (.ins (CC K) dx fs)) (s : But p H H') : Tv (CC K) H H' := bt_tv s h fun z => z rfl
theorem col_but (T : Tx w K mg) {k : Nat} {H H' : Hp} {p p' : Addr} {c : Col} {dx : Addr} {fs : List (Str × V)} (h : H p' = some (.ins (CC K) dx fs)) (s : But p' H H') (ne : p ≠ p') : ColAt K k H p c → ColAt K k H' p c := col_tv T (ins_tv h s) fun o e => s p o e ne
def spChange : Sp := fun vs H Q _ => ∃ (k : Nat) (p : Addr) (av : V) (c : Col) (a : Act), vs = [.ref p, av] ∧ ColAt K k H p c ∧ ActV K k H av a ∧ ActOk k c.q.2.length a ∧ c.q.2.length ≤ 90 ∧ c.past.length ≤ 200 ∧
  ∀ H', But p H H' → ColAt K k H' p ⟨aft c.q a, c.past ++ [(a, c.q)], c.busy, c.n⟩ → Q .non H'
theorem ok_CChange (T : Tx w K mg) : Mt1 P w K mg base 6 (CC K) "change" ["self", "action"] [] (spChange (K := K)) := by
  refine T.E_Collector_change (fun vs H Q E h => ?_) (fun cdv A outer s H vs Q E hr h => ?_)
  · obtain ⟨_, _, _, _, _, rfl, _⟩ := h
    rfl
  obtain ⟨k, p, av, c, a, rfl, ⟨dx, b, r, pt, h1, hb, hrw, hpst⟩, hav, hok, hz, hz2, fin⟩ := h
  refine ⟨_, pss_cons (ps_set (i := 2) sc_Collector_change.nd rfl (Or.inl rfl) (pe_tup (pa_cons (pe_fld (pv 0) rfl) (pa_cons (pe_fld (pv 0) rfl) pa_nil))))
    (pss_cons (ps_asg (pe_f (ok_state_after T) hr (pa_cons (pe_fld (pv 0) rfl) (pa_cons (pv 2) (pa_cons (pv 1) pa_nil)))) (pg_tup rfl (pgs_cons (pg_fld (pv 0)) (pgs_cons (pg_fld (pv 0)) pgs_nil))))
    (pss_one (ps_fld (pv 0) (pe_op op_catA (pe_fld (pv 0) rfl) (pe_tup (pa_cons (pe_tup (pa_cons (pv 1) (pa_cons (pv 2) pa_nil))) pa_nil))) rfl))), ?_⟩
  refine ⟨_, rfl, p, _, dx, _, _, rfl, h1, T.c_Collector, T.n_Collector_begin, fl_begin, _, rfl, p, _, dx, _, _, rfl, h1, T.c_Collector, T.n_Collector_rows, fl_rows, by show 2 ≤ sizeLine; decide, fun sp hsp => ?_⟩
  have s1 : Same H (upd H sp (.tup [b, r])) := sm_new hsp
  have hst : StV K k (upd H sp (.tup [b, r])) (.ref sp) c.q := ⟨sp, b, r, rfl, .inl (.inl upd_same), sum_same s1 hb, rows_same s1 hrw⟩
  refine ⟨_, rfl, p, _, dx, _, _, rfl, s1 _ _ h1, T.c_Collector, T.n_Collector_capacity, fl_capacity, _, rfl, _, rfl, k, _, _, c.q, a, rfl, hst, act_same s1 hav, hok, hz, fun u H2 s2 hu => ?_⟩
  obtain ⟨p2, b2, r2, rfl, hp2, hb2, hr2⟩ := hu
  have h2 := (s1.trans s2) _ _ h1
  refine ⟨p2, _, rfl, hp2, rfl, _, _, rfl, _, rfl, p, _, dx, _, rfl, h2, T.c_Collector, T.n_Collector_begin, fl_few, _, _, rfl, _, rfl, p, _, dx, _, rfl, upd_same, T.c_Collector, T.n_Collector_rows, by rw [pf_begin]; exact fl_few, rfl, ?_⟩
  rw [pf_begin, pf_rows]
  refine ⟨_, rfl, p, _, dx, _, _, rfl, upd_same, T.c_Collector, T.n_Collector_past, fl_past, _, rfl, _, rfl, by show 2 ≤ sizeLine; decide, fun p3 hp3 => ?_⟩
  generalize eH3 : upd (upd H2 p (.ins (CC K) dx (fl k b2 r pt c.busy c.n))) p (.ins (CC K) dx (fl k b2 r2 pt c.busy c.n)) = H3 at hp3 ⊢
  have b3 : But p H2 H3 := eH3 ▸ bt_upd.tr bt_upd
  have h3 : H3 p = some (.ins (CC K) dx (fl k b2 r2 pt c.busy c.n)) := eH3 ▸ upd_same
  have t3 : Tv (CC K) H2 H3 := ins_tv h2 b3
  have s4 : Same H3 (upd H3 p3 (.tup [av, .ref sp])) := sm_new hp3
  have t4 : Tv (CC K) H (upd H3 p3 (.tup [av, .ref sp])) := (sm_tv (s1.trans s2)).tr (t3.tr (sm_tv s4))
  refine one_d (stb_past T (k := k)) (a := (a, c.q)) ⟨p3, av, .ref sp, rfl, .inl (.inl upd_same), (stb_act T).tv t4 hav, (stb_st T).tv ((sm_tv s2).tr (t3.tr (sm_tv s4))) hst⟩ fun q5 H5 s5 hq5 => cat_d (stb_past T (k := k)) ((stb_tup (stb_past T)).tv (t4.tr (sm_tv s5)) hpst) hq5 (by show c.past.length + 1 ≤ 1000; omega) fun pv6 H6 s6 hpv6 => ?_
  have s46 := s4.trans (s5.trans s6)
  refine ⟨_, rfl, p, _, dx, _, rfl, s46 _ _ h3, T.c_Collector, T.n_Collector_past, fl_few, ?_⟩
  rw [pf_past]
  have b7 : But p H6 (upd H6 p (.ins (CC K) dx (fl k b2 r2 pv6 c.busy c.n))) := bt_upd
  have t7 : Tv (CC K) H6 (upd H6 p (.ins (CC K) dx (fl k b2 r2 pv6 c.busy c.n))) := ins_tv (s46 _ _ h3) b7
  refine fin _ (((sm_bt (s1.trans s2)).tr b3).tr ((sm_bt s46).tr b7)) ⟨dx, b2, r2, pv6, upd_same, ?_, ?_, ?_⟩
  · exact (stb_sum T).tv (t3.tr ((sm_tv s46).tr t7)) hb2
  · exact (stb_tup (stb_row T)).tv (t3.tr ((sm_tv s46).tr t7)) hr2
  · exact (stb_tup (stb_past T)).tv t7 hpv6
end
end Kx
set_option Elab.async false
set_option linter.all false
set_option maxRecDepth 100000
set_option maxHeartbeats 4000000
namespace Kx
open PySem PySem.Spec PyProof.Rows L2
section
variable {P : Program} {w : World} {K : PySem.W.Frag} {mg : Str → Option Value} {base : Heap}
def spCInit : Sp := fun vs H Q _ => ∃ (p dx : Addr) (k : Nat), vs = [.ref p, .int k] ∧ H p = some (.ins (CC K) dx []) ∧ 1 ≤ k ∧ k ≤ 8 ∧ ∀ H', But p H H' → ColAt K k H' p ⟨([], []), [], false, 0⟩ → Q .non H'
theorem cn_nil {k : Nat} : Cn k [] := ⟨List.Pairwise.nil, fun p h => (by cases h), fun p h => (by cases h), Nat.zero_le _⟩
theorem made_S2 (T : Tx w K mg) {H : Hp} {k : Nat} {c : V} {t : Tab} {R : VK} {x dx : Addr} (h1 : 1 ≤ k) (h2 : k ≤ 8) (hc : TupOf K (PrV K) H c t) (cn : Cn k t) (hx : H x = none) (hdx : H dx = none) (hne : dx ≠ x) (q : ∀ H', Same H H' → SumV K H' (.ref x) (k, t) → R .non H') :
    spSInit (K := K) [.ref x, .int k, c] (upd (upd H dx (.own x)) x (.ins (CS K) dx [])) R E0 := by
  have s0 : Same H (upd (upd H dx (.own x)) x (.ins (CS K) dx [])) := Same.trans (sm_new hdx) (sm_new (by rw [upd_ne hne.symm]; exact hx))
  refine ⟨x, dx, k, c, t, rfl, upd_same, h1, h2, prs_same s0 hc, cn, fun H' b h => ?_⟩
  have s1 : Same H H' := fun y o e => b y o (s0 y o e) (ne_of_none e hx)
  exact q _ s1 ⟨x, dx, c, rfl, h, prs_same s1 hc⟩
theorem mk_C (T : Tx w K mg) : Mk1 P w K mg base 7 "Collector" (CC K) ["self", "capacity"] [] (spCInit (K := K)) := by
  refine T.E_Collector___init__ (fun vs H Q E h => ?_) (fun cdv A outer s H vs Q E hr h => ?_)
  · obtain ⟨_, _, _, rfl, _⟩ := h
    rfl
  obtain ⟨p, dx, k, rfl, hp, h1, h8, fin⟩ := h
  refine ⟨_, pss_cons (ps_expr (pe_f (ok_check_capacity T) (hr.mono (by decide)) (pa_cons (pv 1) pa_nil)))
    (pss_cons (ps_fld (pv 0) (pv 1) rfl) (pss_cons (ps_fld (pv 0) (pe_mk (mk_S1 T) hr (pa_cons (pv 1) pa_nil)) rfl)
    (pss_cons (ps_fld (pv 0) (pe_tup pa_nil) rfl) (pss_cons (ps_fld (pv 0) (pe_tup pa_nil) rfl) (pss_cons (ps_fld (pv 0) pe_bl rfl) (pss_one (ps_fld (pv 0) pe_int rfl))))))), ?_⟩
  refine ⟨_, rfl, k, rfl, by omega, by omega, _, rfl, _, rfl, p, _, dx, _, rfl, hp, T.c_Collector, T.n_Collector_capacity, by decide, ?_⟩
  rw [show putF "capacity" (V.int k) [] = ([("capacity", V.int k)] : List (Str × V)) from rfl]
  have b1 : But p H (upd H p (.ins (CC K) dx [("capacity", V.int k)])) := bt_upd
  refine ⟨_, rfl, fun x0 dx0 z1 z2 z3 => made_S2 T h1 h8 (empty_tup T) cn_nil z1 z2 z3 fun H2 s2 hb => ⟨rfl, ?_⟩⟩
  generalize V.ref x0 = b at hb ⊢
  have hp2 := s2 _ _ (upd_same (H := H) (a := p) (o := .ins (CC K) dx [("capacity", V.int k)]))
  refine ⟨_, rfl, p, _, dx, _, rfl, hp2, T.c_Collector, T.n_Collector_begin, by show 1 < 1000; decide, ?_⟩
  rw [show putF "begin" b ([("capacity", V.int k)] : List (Str × V)) = ([("capacity", V.int k), ("begin", b)] : List (Str × V)) by kernel_rfl]
  generalize e3 : upd H2 p (.ins (CC K) dx [("capacity", V.int k), ("begin", b)]) = H3
  have b3 : But p H2 H3 := e3 ▸ bt_upd
  have hp3 : H3 p = some (.ins (CC K) dx [("capacity", V.int k), ("begin", b)]) := e3 ▸ upd_same
  refine ⟨Nat.zero_le _, fun r hr' => ⟨_, rfl, p, _, dx, _, rfl, sm_new hr' _ _ hp3, T.c_Collector, T.n_Collector_rows, by show 2 < 1000; decide, ?_⟩⟩
  rw [show putF "rows" (V.ref r) ([("capacity", V.int k), ("begin", b)] : List (Str × V)) = ([("capacity", V.int k), ("begin", b), ("rows", V.ref r)] : List (Str × V)) by kernel_rfl]
  have hrp : r ≠ p := (ne_of_none hp3 hr').symm
  generalize e4 : upd (upd H3 r (.tup [])) p (.ins (CC K) dx [("capacity", V.int k), ("begin", b), ("rows", V.ref r)]) = H4
  have b4 : But p H3 H4 := e4 ▸ (sm_bt (sm_new hr')).tr bt_upd
  have hp4 : H4 p = some (.ins (CC K) dx [("capacity", V.int k), ("begin", b), ("rows", V.ref r)]) := e4 ▸ upd_same
  have hr4 : H4 r = some (.tup []) := by rw [← e4, upd_ne hrp, upd_same]
  refine ⟨Nat.zero_le _, fun t ht => ⟨_, rfl, p, _, dx, _, rfl, sm_new ht _ _ hp4, T.c_Collector, T.n_Collector_past, by show 3 < 1000; decide, ?_⟩⟩
  rw [show putF "past" (V.ref t) ([("capacity", V.int k), ("begin", b), ("rows", V.ref r)] : List (Str × V)) = ([("capacity", V.int k), ("begin", b), ("rows", V.ref r), ("past", V.ref t)] : List (Str × V)) by kernel_rfl]
  have htp : t ≠ p := (ne_of_none hp4 ht).symm
  have htr : r ≠ t := ne_of_none hr4 ht
  generalize e5 : upd (upd H4 t (.tup [])) p (.ins (CC K) dx [("capacity", V.int k), ("begin", b), ("rows", V.ref r), ("past", V.ref t)]) = H5
  have b5 : But p H4 H5 := e5 ▸ (sm_bt (sm_new ht)).tr bt_upd
  have hp5 : H5 p = some (.ins (CC K) dx [("capacity", V.int k), ("begin", b), ("rows", V.ref r), ("past", V.ref t)]) := e5 ▸ upd_same
  have ht5 : H5 t = some (.tup []) := by rw [← e5, upd_ne htp, upd_same]
  refine ⟨_, rfl, p, _, dx, _, rfl, hp5, T.c_Collector, T.n_Collector_busy, by show 4 < 1000; decide, ?_⟩
  rw [show putF "busy" (V.bl false) ([("capacity", V.int k), ("begin", b), ("rows", V.ref r), ("past", V.ref t)] : List (Str × V)) = ([("capacity", V.int k), ("begin", b), ("rows", V.ref r), ("past", V.ref t), ("busy", V.bl false)] : List (Str × V)) by kernel_rfl]
  refine ⟨_, rfl, p, _, dx, _, rfl, upd_same, T.c_Collector, T.n_Collector_attempts, by show 5 < 1000; decide, ?_⟩
  rw [show putF "attempts" (V.int 0) ([("capacity", V.int k), ("begin", b), ("rows", V.ref r), ("past", V.ref t), ("busy", V.bl false)] : List (Str × V)) = fl k b (.ref r) (.ref t) false 0 by kernel_rfl]
  generalize e6 : upd (upd H5 p (.ins (CC K) dx [("capacity", V.int k), ("begin", b), ("rows", V.ref r), ("past", V.ref t), ("busy", V.bl false)])) p (.ins (CC K) dx (fl k b (.ref r) (.ref t) false 0)) = H6
  have b6 : But p H5 H6 := e6 ▸ bt_upd.tr bt_upd
  have hp6 : H6 p = some (.ins (CC K) dx (fl k b (.ref r) (.ref t) false 0)) := e6 ▸ upd_same
  have b26 : But p H2 H6 := b3.tr (b4.tr (b5.tr b6))
  refine fin H6 (b1.tr ((sm_bt s2).tr b26)) ⟨dx, b, .ref r, .ref t, hp6, ?_, ?_, ?_⟩
  · exact (stb_sum T).tv (ins_tv hp2 b26) hb
  · exact ⟨r, [], rfl, .inl (.inl (b6 _ _ (b5 _ _ hr4 hrp) hrp)), .nil⟩
  · exact ⟨t, [], rfl, .inl (.inl (b6 _ _ ht5 htp)), .nil⟩
/-- making one -/
theorem made_C (T : Tx w K mg) {H : Hp} {k : Nat} {Q : VK} (h1 : 1 ≤ k) (h8 : k ≤ 8) (q : ∀ p H', Same H H' → H p = none → ColAt K k H' p ⟨([], []), [], false, 0⟩ → Q (.ref p) H') :
    ∀ x dx, H x = none → H dx = none → dx ≠ x → spCInit (K := K) (.ref x :: ([.int k] ++ [])) (upd (upd H dx (.own x)) x (.ins (CC K) dx [])) (fun v H2 => v = .non ∧ Q (.ref x) H2) E0 := by
  intro x dx hx hdx hne
  have s0 : Same H (upd (upd H dx (.own x)) x (.ins (CC K) dx [])) := Same.trans (sm_new hdx) (sm_new (by rw [upd_ne hne.symm]; exact hx))
  refine ⟨x, dx, k, rfl, upd_same, h1, h8, fun H' b h => ⟨rfl, q _ _ (fun y o e => b y o (s0 y o e) (ne_of_none e hx)) hx h⟩⟩
def spCur : Sp := fun vs H Q _ => ∃ (k : Nat) (p : Addr) (c : Col), vs = [.ref p] ∧ ColAt K k H p c ∧ StOk k c.q ∧ 1 ≤ k ∧ k ≤ 8 ∧ ∀ u H', Same H H' → SumV K H' u (k, cur k c.q) → Q u H'
theorem ok_CCurrent (T : Tx w K mg) : Mt1 P w K mg base 9 (CC K) "current" ["self"] [] (spCur (K := K)) := by
  refine T.E_Collector_current (fun vs H Q E h => ?_) (fun cdv A outer s H vs Q E hr h => ?_)
  · obtain ⟨_, _, _, rfl, _⟩ := h
    rfl
  obtain ⟨k, p, c, rfl, ⟨dx, b, r, pt, h1, hb, hrw, hpst⟩, hok, hk, hk8, fin⟩ := h
  refine ⟨_, pss_one (ps_ret (pe_f (ok_current_of T) hr (pa_cons (pe_fld (pv 0) rfl) (pa_cons (pe_fld (pv 0) rfl) pa_nil)))), ?_⟩
  exact ⟨_, rfl, p, _, dx, _, _, rfl, h1, T.c_Collector, T.n_Collector_begin, fl_begin, _, rfl, p, _, dx, _, _, rfl, h1, T.c_Collector, T.n_Collector_rows, fl_rows, k, b, r, c.q, rfl, hb, hrw, hok, hk, hk8, fin⟩
/-- what a doing asks and gives -/
def DoR (K : PySem.W.Frag) (k : Nat) (p : Addr) (a : Act) (H : Hp) (Q : VK) : Prop := ∃ c : Col, ColAt K k H p c ∧ c.busy = false ∧ ActOk k c.q.2.length a ∧ StOk k c.q ∧ 1 ≤ k ∧ k ≤ 8 ∧ c.q.2.length ≤ 90 ∧ c.past.length ≤ 200 ∧
  ∀ u H', But p H H' → ColAt K k H' p ⟨aft c.q a, c.past ++ [(a, c.q)], false, c.n⟩ → SumV K H' u (k, cur k (aft c.q a)) → Q u H'
theorem DoR.same {k : Nat} {p : Addr} {a : Act} {H H' : Hp} {Q : VK} (s : Same H H') : DoR K k p a H Q → DoR K k p a H' Q := fun ⟨c, h1, h2, h3, h4, h5, h6, h7, h8, h9⟩ => ⟨c, col_same s h1, h2, h3, h4, h5, h6, h7, h8, fun u H2 b => h9 u H2 ((sm_bt s).tr b)⟩
def spDo : Sp := fun vs H Q _ => ∃ (k : Nat) (p : Addr) (av : V) (a : Act), vs = [.ref p, av] ∧ ActV K k H av a ∧ DoR K k p a H Q
theorem ok_CDo (T : Tx w K mg) : Mt1 P w K mg base 10 (CC K) "do" ["self", "action"] [] (spDo (K := K)) := by
  refine T.E_Collector_do (fun vs H Q E h => ?_) (fun cdv A outer s H vs Q E hr h => ?_)
  · obtain ⟨_, _, _, _, rfl, _⟩ := h
    rfl
  obtain ⟨k, p, av, a, rfl, hav, c, hc, hbz, hok, hst, hk, hk8, hz1, hz2, fin⟩ := h
  have hc0 := hc
  obtain ⟨dx, b, r, pt, h1, hb, hrw, hpst⟩ := hc
  refine ⟨_, pss_cons (ps_if (pt_val (pe_fld (pv 0) rfl)) pss_never pss_nil)
    (pss_cons (ps_if (pt_not (pt_val (pe_f (ok_is_action T) (hr.mono (by decide)) (pa_cons (pv 1) pa_nil)))) pss_never pss_nil)
    (pss_cons (ps_expr (pe_m (ok_CChange T) (hr.mono (by decide)) (pv 0) (pa_cons (pv 1) pa_nil)))
    (pss_one (ps_ret (pe_m0 (ok_CCurrent T) hr (pv 0)))))), ?_⟩
  refine ⟨_, rfl, p, _, dx, _, _, rfl, h1, T.c_Collector, T.n_Collector_busy, fl_busy, _, rfl, ?_⟩
  rw [hbz]
  refine iteF ⟨_, rfl, av, k, a, rfl, hav, fun H1 s1 => ⟨true, rfl, iteF ?_⟩⟩
  refine ⟨_, rfl, p, dx, _, rfl, s1 _ _ h1, fl_no (by decide +kernel), _, rfl, k, p, av, c, a, rfl, col_same s1 hc0, act_same s1 hav, hok, hz1, hz2, fun H2 b2 hc2 => ?_⟩
  rw [hbz] at hc2
  have hc2' := hc2
  obtain ⟨dx2, b', r', pt', h2, _⟩ := hc2'
  refine ⟨_, rfl, p, dx2, _, rfl, h2, fl_no (by decide +kernel), k, p, _, rfl, hc2, aft_ok hst hok, hk, hk8, fun u H3 s3 hu => ?_⟩
  exact fin u H3 ((sm_bt s1).tr (b2.tr (sm_bt s3))) (col_same s3 hc2) hu
def spCArrive : Sp := fun vs H Q _ => ∃ (k : Nat) (p : Addr) (x : Str) (n : Int), vs = [.ref p, .str x, .int n] ∧ DoR K k p (.arr x n) H Q
theorem col_at {k : Nat} {p : Addr} {a : Act} {H : Hp} {Q : VK} (h : DoR K k p a H Q) : ∃ dx b r pt bz n, H p = some (.ins (CC K) dx (fl k b r pt bz n)) := by
  obtain ⟨c, ⟨dx, b, r, pt, h1, _⟩, _⟩ := h
  exact ⟨dx, b, r, pt, _, _, h1⟩
theorem ok_CArrive (T : Tx w K mg) : Mt1 P w K mg base 11 (CC K) "arrive" ["self", "name", "times"] [] (spCArrive (K := K)) := by
  obtain ⟨fd, F, D⟩ : ∃ fd, FnOk P w K mg base CX0 11 (He.ma K (He.ga K "Collector") "arrive") fd ["self", "name", "times"] (spCArrive (K := K)) ∧ _ := T.G_Collector_arrive (k := 10) (sp := spCArrive (K := K)) (fun vs H Q E h => by
    obtain ⟨_, _, _, _, rfl, _⟩ := h
    rfl) (fun cdv A outer s H vs Q E hr h => by
    obtain ⟨k, p, x, n, rfl, h⟩ := h
    obtain ⟨dx, b, r, pt, bz, m, h1⟩ := col_at h
    refine ⟨_, pss_one (ps_ret (pe_m (ok_CDo T) hr (pv 0) (pa_cons (pe_tup (pa_cons pe_str (pa_cons (pv 1) (pa_cons (pv 2) pa_nil)))) pa_nil))), ?_⟩
    refine ⟨_, rfl, p, dx, _, rfl, h1, fl_no (by decide +kernel), _, rfl, _, rfl, by show 3 ≤ sizeLine; decide, fun q hq => ?_⟩
    exact ⟨k, p, _, .arr x n, rfl, ⟨q, _, rfl, .inl (.inl upd_same), rfl⟩, h.same (sm_new hq)⟩)
  obtain ⟨ds, h1, h2⟩ := D.binds1 (ps := ["self", "name", "times"]) 3 1 (by simp) rfl (fun _ _ _ _ _ _ _ us its hl h2 => match us, its, hl, h2 with | [_, _, _], [_], _, _ => ⟨_, rfl, rfl⟩)
  exact ⟨_, fd, ds, F, T.c_Collector, T.me_Collector_arrive, h2, h1⟩
def spCMerge : Sp := fun vs H Q _ => ∃ (k : Nat) (p : Addr) (u : V) (t : Tab), vs = [.ref p, u] ∧ SumV K H u (k, t) ∧ DoR K k p (.mrg t) H Q
theorem ok_CMerge (T : Tx w K mg) : Mt1 P w K mg base 11 (CC K) "merge" ["self", "summary"] [] (spCMerge (K := K)) := by
  refine T.E_Collector_merge (fun vs H Q E h => ?_) (fun cdv A outer s H vs Q E hr h => ?_)
  · obtain ⟨_, _, _, _, rfl, _⟩ := h
    rfl
  obtain ⟨k, p, u, t, rfl, hu, h⟩ := h
  obtain ⟨dx, b, r, pt, bz, m, h1⟩ := col_at h
  refine ⟨_, pss_one (ps_ret (pe_m (ok_CDo T) hr (pv 0) (pa_cons (pe_tup (pa_cons pe_str (pa_cons (pv 1) pa_nil))) pa_nil))), ?_⟩
  refine ⟨_, rfl, p, dx, _, rfl, h1, fl_no (by decide +kernel), _, rfl, by show 2 ≤ sizeLine; decide, fun q hq => ?_⟩
  exact ⟨k, p, _, .mrg t, rfl, ⟨q, _, rfl, .inl (.inl upd_same), u, rfl, sum_same (sm_new hq) hu⟩, h.same (sm_new hq)⟩
def spCRestart : Sp := fun vs H Q _ => ∃ (k : Nat) (p : Addr) (u : V) (t : Tab), vs = [.ref p, u] ∧ SumV K H u (k, t) ∧ DoR K k p (.sta t) H Q
theorem ok_CRestart (T : Tx w K mg) : Mt1 P w K mg base 11 (CC K) "restart" ["self", "summary"] [] (spCRestart (K := K)) := by
  refine T.E_Collector_restart (fun vs H Q E h => ?_) (fun cdv A outer s H vs Q E hr h => ?_)
  · obtain ⟨_, _, _, _, rfl, _⟩ := h
    rfl
  obtain ⟨k, p, u, t, rfl, hu, h⟩ := h
  obtain ⟨dx, b, r, pt, bz, m, h1⟩ := col_at h
  refine ⟨_, pss_one (ps_ret (pe_m (ok_CDo T) hr (pv 0) (pa_cons (pe_tup (pa_cons pe_str (pa_cons (pv 1) pa_nil))) pa_nil))), ?_⟩
  refine ⟨_, rfl, p, dx, _, rfl, h1, fl_no (by decide +kernel), _, rfl, by show 2 ≤ sizeLine; decide, fun q hq => ?_⟩
  exact ⟨k, p, _, .sta t, rfl, ⟨q, _, rfl, .inl (.inl upd_same), u, rfl, sum_same (sm_new hq) hu⟩, h.same (sm_new hq)⟩
def spCInsert : Sp := fun vs H Q _ => ∃ (k : Nat) (p : Addr) (i : Nat) (x : Str) (n : Int), vs = [.ref p, .int i, .str x, .int n] ∧ DoR K k p (.ins i x n) H Q
theorem ok_CInsert (T : Tx w K mg) : Mt1 P w K mg base 11 (CC K) "insert_at" ["self", "index", "name", "times"] [.int 1] (spCInsert (K := K)) := by
  obtain ⟨fd, F, D⟩ : ∃ fd, FnOk P w K mg base CX0 11 (He.ma K (He.ga K "Collector") "insert_at") fd ["self", "index", "name", "times"] (spCInsert (K := K)) ∧ _ := T.G_Collector_insert_at (k := 10) (sp := spCInsert (K := K)) (fun vs H Q E h => by
    obtain ⟨_, _, _, _, _, rfl, _⟩ := h
    rfl) (fun cdv A outer s H vs Q E hr h => by
    obtain ⟨k, p, i, x, n, rfl, h⟩ := h
    obtain ⟨dx, b, r, pt, bz, m, h1⟩ := col_at h
    refine ⟨_, pss_one (ps_ret (pe_m (ok_CDo T) hr (pv 0) (pa_cons (pe_tup (pa_cons pe_str (pa_cons (pv 1) (pa_cons (pv 2) (pa_cons (pv 3) pa_nil))))) pa_nil))), ?_⟩
    refine ⟨_, rfl, p, dx, _, rfl, h1, fl_no (by decide +kernel), _, rfl, _, rfl, _, rfl, by show 4 ≤ sizeLine; decide, fun q hq => ?_⟩
    exact ⟨k, p, _, .ins i x n, rfl, ⟨q, _, rfl, .inl (.inl upd_same), rfl⟩, h.same (sm_new hq)⟩)
  obtain ⟨ds, h1, h2⟩ := D.binds1 (ps := ["self", "index", "name", "times"]) 3 0 (by simp) rfl (fun _ _ _ _ _ _ _ us its hl h2 => match us, its, hl, h2 with | [_, _, _], [_], _, _ => ⟨_, rfl, rfl⟩)
  exact ⟨_, fd, ds, F, T.c_Collector, T.me_Collector_insert_at, h2, h1⟩
end
end Kx
set_option Elab.async false
set_option linter.all false
set_option maxRecDepth 100000
set_option maxHeartbeats 4000000
namespace Kx
open PySem PySem.Spec PyProof.Rows L2
/-! ### tables as plain data -/
def prD (p : Str × Int) : PyData := .tuple [.str p.1, .int p.2]
def tabD (t : List (Str × Int)) : PyData := .tuple (t.map prD)
theorem str_ok {x : Str} (h : ∀ c ∈ x.cps.toList, c < 0x110000) : PyData.strOk x = true := by
  unfold PyData.strOk
  rw [← Array.all_toList, List.all_eq_true]
  exact fun c hc => decide_eq_true (h c hc)
theorem nm_ok {x : Str} (h : IsNm x) : PyData.strOk x = true := str_ok fun c hc => by
  have m := h.2.2 c hc
  have key : ((Str.ofString "abcdefghijklmnopqrstuvwxyz").cps.toList.all fun c => decide (c < 0x110000)) = true := by decide +kernel
  exact of_decide_eq_true (List.all_eq_true.mp key c m)
theorem lay_all : ∀ {t : List (Str × Int)}, (∀ p ∈ t, IsNm p.1) → PyData.canLayAll0 (t.map prD) = true
  | [], _ => by simp [PyData.canLayAll0]
  | p :: r, h => by
    rw [List.map_cons, PyData.canLayAll0, lay_all fun q hq => h q (List.mem_cons_of_mem _ hq), prD, PyData.canLay0, PyData.canLayAll0, PyData.canLay0, PyData.canLayAll0, PyData.canLay0, PyData.canLayAll0, nm_ok (h p (List.mem_cons_self ..))]
    rfl
theorem depth_all : ∀ t : List (Str × Int), PyData.depthAll (t.map prD) ≤ 1
  | [] => by simp [PyData.depthAll]
  | p :: r => by
    rw [List.map_cons, PyData.depthAll, prD, PyData.depth, PyData.depthAll, PyData.depth, PyData.depthAll, PyData.depth, PyData.depthAll]
    have := depth_all r
    omega
theorem tab_shaped {t : List (Str × Int)} (h : ∀ p ∈ t, IsNm p.1) : SeqAt.shaped (tabD t) = true := by
  unfold SeqAt.shaped tabD
  rw [PyData.canLay0, lay_all h, PyData.depth, Bool.true_and]
  have := depth_all t
  exact decide_eq_true (by omega)
theorem eqv_len : ∀ {a b : List PyData}, a.length ≠ b.length → PyData.eqvAll a b = false
  | [], [], h => absurd rfl h
  | [], _ :: _, _ => by simp [PyData.eqvAll]
  | _ :: _, [], _ => by simp [PyData.eqvAll]
  | x :: a, y :: b, h => by
    rw [PyData.eqvAll, eqv_len (a := a) (b := b) (by simpa using h), Bool.and_false]
theorem tab_ne {t u : List (Str × Int)} (h : t.length ≠ u.length) : PyData.eqv (tabD t) (tabD u) = false := by
  unfold tabD
  rw [PyData.eqv, eqv_len (by simpa using h)]
section
variable {P : Program} {w : World} {K : PySem.W.Frag} {mg : Str → Option Value} {base : Heap}
theorem dp_all {H : Hp} : ∀ {xs : List V} {t : List (Str × Int)}, Paired (PrV K H) xs t → DpAll K H xs (t.map prD)
  | _, _, .nil => .nil
  | _, _, .cons ⟨p, e, h⟩ r => .cons (e ▸ .tup h (.cons (.str _) (.cons (.int _) .nil))) (dp_all r)
theorem dp_tab {H : Hp} {v : V} {t : Tab} (h : TupOf K (PrV K) H v t) : Dp K H v (tabD t) := by
  obtain ⟨a, xs, rfl, ha, p⟩ := h
  exact .tup ha (dp_all p)
theorem Mt1.own {X : Cx} {k : Nat} {C : Addr} {m : Str} {ps : List Str} {sp : Sp} (M : Mt1 X.prog X.w X.K X.mg X.base k C m ps [] sp) : Own X k C m sp := by
  obtain ⟨f, fd, ds, F, c, me, b, v⟩ := M.ex
  cases v
  exact ⟨f, fd, ps, F, me.at_, me.fn, b⟩
def spStart : Sp := fun vs H Q _ => ∃ (k : Nat) (p : Addr) (c : Col), vs = [.ref p] ∧ ColAt K k H p c ∧ ∀ u, SumV K H u (k, c.q.1) → Q u H
theorem ok_CStart (T : Tx w K mg) : Mt1 P w K mg base 1 (CC K) "start" ["self"] [] (spStart (K := K)) := by
  refine T.E_Collector_start (fun vs H Q E h => ?_) (fun cdv A outer s H vs Q E hr h => ?_)
  · obtain ⟨_, _, _, rfl, _⟩ := h
    rfl
  obtain ⟨k, p, c, rfl, ⟨dx, b, r, pt, h1, hb, hrw, hpst⟩, fin⟩ := h
  exact ⟨_, pss_one (ps_ret (pe_fld (pv 0) rfl)), _, rfl, p, _, dx, _, _, rfl, h1, T.c_Collector, T.n_Collector_begin, fl_begin, fin b hb⟩
def spEntries : Sp := fun vs H Q _ => ∃ (k : Nat) (p : Addr) (c : Col), vs = [.ref p] ∧ ColAt K k H p c ∧ ∀ u, TupOf K (RowV K k) H u c.q.2 → Q u H
theorem ok_CEntries (T : Tx w K mg) : Mt1 P w K mg base 1 (CC K) "entries" ["self"] [] (spEntries (K := K)) := by
  refine T.E_Collector_entries (fun vs H Q E h => ?_) (fun cdv A outer s H vs Q E hr h => ?_)
  · obtain ⟨_, _, _, rfl, _⟩ := h
    rfl
  obtain ⟨k, p, c, rfl, ⟨dx, b, r, pt, h1, hb, hrw, hpst⟩, fin⟩ := h
  exact ⟨_, pss_one (ps_ret (pe_fld (pv 0) rfl)), _, rfl, p, _, dx, _, _, rfl, h1, T.c_Collector, T.n_Collector_rows, fl_rows, fin r hrw⟩
def spCLen : Sp := fun vs H Q _ => ∃ (k : Nat) (p : Addr) (c : Col), vs = [.ref p] ∧ ColAt K k H p c ∧ Q (.int c.q.2.length) H
theorem ok_CLen (T : Tx w K mg) : Mt1 P w K mg base 1 (CC K) "__len__" ["self"] [] (spCLen (K := K)) := by
  refine T.E_Collector___len__ (fun vs H Q E h => ?_) (fun cdv A outer s H vs Q E hr h => ?_)
  · obtain ⟨_, _, _, rfl, _⟩ := h
    rfl
  obtain ⟨k, p, c, rfl, ⟨dx, b, r, pt, h1, hb, ⟨a, xs, rfl, ha, hp⟩, hpst⟩, fin⟩ := h
  refine ⟨_, pss_one (ps_ret (pe_callB call_len_seq rfl T.b_len bt_len (pa_cons (pe_fld (pv 0) rfl) pa_nil))), _, rfl, p, _, dx, _, _, rfl, h1, T.c_Collector, T.n_Collector_rows, fl_rows, a, xs, rfl, .inr ha, ?_⟩
  rw [pd_len hp]
  exact fin
def spCStr : Sp := fun vs H Q _ => ∃ (k : Nat) (p : Addr) (c : Col), vs = [.ref p] ∧ ColAt K k H p c ∧ StOk k c.q ∧ 1 ≤ k ∧ k ≤ 8 ∧ Tx9 (cur k c.q) ∧ ∀ H', Same H H' → Q (.str (txt (cur k c.q))) H'
theorem ok_CStr (T : Tx w K mg) : Mt1 P w K mg base 9 (CC K) "__str__" ["self"] [] (spCStr (K := K)) := by
  refine T.E_Collector___str__ (fun vs H Q E h => ?_) (fun cdv A outer s H vs Q E hr h => ?_)
  · obtain ⟨_, _, _, rfl, _⟩ := h
    rfl
  obtain ⟨k, p, c, rfl, ⟨dx, b, r, pt, h1, hb, hrw, hpst⟩, hok, hk, hk8, t9, fin⟩ := h
  refine ⟨_, pss_one (ps_ret (pe_callTy (call_strO (C := CS K) (Mt1.own (ok_SStr T)) (hr.mono (by decide))) rfl T.b_str bt_str (pa_cons (pe_f (ok_current_of T) hr (pa_cons (pe_fld (pv 0) rfl) (pa_cons (pe_fld (pv 0) rfl) pa_nil))) pa_nil))), ?_⟩
  refine ⟨_, rfl, p, _, dx, _, _, rfl, h1, T.c_Collector, T.n_Collector_begin, fl_begin, _, rfl, p, _, dx, _, _, rfl, h1, T.c_Collector, T.n_Collector_rows, fl_rows, k, b, r, c.q, rfl, hb, hrw, hok, hk, hk8, fun u H1 s1 hu => ?_⟩
  have hu0 := hu
  obtain ⟨pu, du, cu, rfl, hpu, _⟩ := hu
  exact ⟨pu, du, _, rfl, hpu, _, _, rfl, hu0, t9, fun H2 s2 => ⟨_, rfl, fin H2 (s1.trans s2)⟩⟩
def rC (k n : Nat) : Str := ((((Str.empty ++ ("Collector(" : Str)) ++ (toString (k : Int) : String)) ++ (", " : Str)) ++ (toString (n : Int) : String)) ++ (" entries)" : Str)
def spCRepr : Sp := fun vs H Q _ => ∃ (k : Nat) (p : Addr) (c : Col), vs = [.ref p] ∧ ColAt K k H p c ∧ k ≤ 8 ∧ c.q.2.length ≤ 100 ∧ Q (.str (rC k c.q.2.length)) H
theorem ok_CRepr (T : Tx w K mg) : Mt1 P w K mg base 1 (CC K) "__repr__" ["self"] [] (spCRepr (K := K)) := by
  refine T.E_Collector___repr__ (fun vs H Q E h => ?_) (fun cdv A outer s H vs Q E hr h => ?_)
  · obtain ⟨_, _, _, rfl, _⟩ := h
    rfl
  obtain ⟨k, p, c, rfl, ⟨dx, b, r, pt, h1, hb, ⟨a, xs, rfl, ha, hp⟩, hpst⟩, hk8, hz, fin⟩ := h
  refine ⟨_, pss_one (ps_ret (pe_joined (.cons pe_str (.cons (pe_fmt (pe_fld (pv 0) rfl)) (.cons pe_str (.cons (pe_fmt (pe_callB call_len_seq rfl T.b_len bt_len (pa_cons (pe_fld (pv 0) rfl) pa_nil))) (.cons pe_str .nil))))))), ?_⟩
  have z : sizeLine = 16777216 := sizeLine_eq
  have sk : Small (k : Int) := small_of (b := 4) (by omega) (by omega) (by decide)
  have sn : Small (c.q.2.length : Int) := small_of (b := 10) (by omega) (by omega) (by decide)
  have e1 := PyProof.Rows.int_text_len_1921 sk
  have e2 := PyProof.Rows.int_text_len_1921 sn
  have hl := pd_len hp
  refine ⟨_, rfl, ?_, _, rfl, p, _, dx, _, _, rfl, h1, T.c_Collector, T.n_Collector_capacity, fl_capacity, .inr ⟨_, rfl, sk, _, rfl, ?_, _, rfl, ?_, _, rfl, p, _, dx, _, _, rfl, h1, T.c_Collector, T.n_Collector_rows, fl_rows, a, xs, rfl, .inr ha, .inr ⟨_, rfl, by rw [hl]; exact sn, _, rfl, ?_, _, rfl, ?_, by rw [hl]; exact fin⟩⟩⟩
  · rw [z]; decide
  · simp only [PySem.Str.length_append]
    show (0 + 10) + (Str.ofString (toString (k : Int))).length ≤ _
    omega
  · simp only [PySem.Str.length_append]
    show ((0 + 10) + (Str.ofString (toString (k : Int))).length) + 2 ≤ _
    omega
  · rw [hl]
    simp only [PySem.Str.length_append]
    show (((0 + 10) + (Str.ofString (toString (k : Int))).length) + 2) + (Str.ofString (toString (c.q.2.length : Int))).length ≤ _
    omega
  · rw [hl]
    simp only [PySem.Str.length_append]
    show ((((0 + 10) + (Str.ofString (toString (k : Int))).length) + 2) + (Str.ofString (toString (c.q.2.length : Int))).length) + 9 ≤ _
    omega
/-! ### == of two collectors -/
def runs (t : List (Str × Int)) : List Row := t.map fun p => .run p.1 p.2
theorem runs_tup {H : Hp} {k : Nat} {v : V} {t : Tab} (h : TupOf K (RowV K k) H v (runs t)) : TupOf K (PrV K) H v t := by
  obtain ⟨a, xs, e, ha, p⟩ := h
  refine ⟨a, xs, e, ha, ?_⟩
  unfold runs at p
  clear e ha
  induction t generalizing xs with
  | nil => cases p; exact .nil
  | cons q r ih =>
    cases p with
    | cons h p => exact .cons h (ih _ p)
theorem tup_runs {H : Hp} {k : Nat} {v : V} {t : Tab} (h : TupOf K (PrV K) H v t) : TupOf K (RowV K k) H v (runs t) := by
  obtain ⟨a, xs, e, ha, p⟩ := h
  refine ⟨a, xs, e, ha, ?_⟩
  unfold runs
  clear e ha
  induction p with
  | nil => exact .nil
  | cons h p ih => exact .cons h ih
def DRow (K : PySem.W.Frag) : Eqv := fun x y H => DTup K DFlat x y H ∨ DIns (CS K) (Rs K) x y H
theorem rs_mon {a b : Addr} {H H' : Hp} (e : Ext H H') : Rs K a b H → Rs K a b H' := fun ⟨q, h1, h2⟩ => ⟨q, sum_same e h1, sum_same e h2⟩
theorem mon_drow : Mon (DRow K) := (mon_tup mon_flat).or (mon_ins fun _ _ _ _ e => rs_mon e)
theorem d_row {H : Hp} {k : Nat} {u v : V} {r : Row} (h1 : RowV K k H u r) (h2 : RowV K k H v r) : DRow K u v H := by
  cases r with
  | run x n => exact .inl (d_pr h1 h2)
  | sum t =>
    have a := h1
    have b := h2
    obtain ⟨p, dx, c, rfl, h1, _⟩ := h1
    obtain ⟨p', dx', c', rfl, h2, _⟩ := h2
    exact .inr ⟨p, p', dx, dx', _, _, rfl, rfl, h1, h2, _, a, b⟩
theorem Mt1.eqG {X : Cx} {k : Nat} {C : Addr} {ps : List Str} {R : Addr → Addr → Hp → Prop} (M : Mt1 X.prog X.w X.K X.mg X.base k C "__eq__" ps [] (spEq R)) : RcG X k (DIns C R) := by
  obtain ⟨f, fd, ds, F, c, me, b, v⟩ := M.ex
  cases v
  exact rcG_ins F me.at_ me.fn b pass0
def spCEq : Sp := fun vs H Q _ => ∃ (k : Nat) (a b : Addr) (c d : Col), vs = [.ref a, .ref b] ∧ ColAt K k H a c ∧ ColAt K k H b d ∧ c.q.1 = d.q.1 ∧
  ((c.q.2 = d.q.2 ∧ ∀ H', Same H H' → Q (.bl true) H') ∨ ∃ t u : Tab, c.q.2 = runs t ∧ d.q.2 = runs u ∧ (∀ p ∈ t, IsNm p.1) ∧ (∀ p ∈ u, IsNm p.1) ∧ t.length ≠ u.length ∧ ∀ H', Same H H' → Q (.bl false) H')
theorem ok_CEq (T : Tx w K mg) : Mt1 P w K mg base 6 (CC K) "__eq__" ["self", "other"] [] (spCEq (K := K)) := by
  refine T.E_Collector___eq__ (fun vs H Q E h => ?_) (fun cdv A outer s H vs Q E hr h => ?_)
  · obtain ⟨_, _, _, _, _, rfl, _⟩ := h
    rfl
  obtain ⟨k, a, b, c, d, rfl, ⟨da, ba, ra, pa, h1, hba, hra, _⟩, ⟨db, bb, rb, pb, h2, hbb, hrb, _⟩, eb, cases2⟩ := h
  have G : RcG (cxOf CX0 P w K mg base n_Collector___eq__ "Collector.__eq__" (defScope s_Collector___eq__) (He.ma K (He.ga K "Collector") "__eq__") cdv A outer s H E).nox 3 (DIns (CS K) (Rs K)) := Mt1.eqG (ok_SEq T)
  have GR : EqG (cxOf CX0 P w K mg base n_Collector___eq__ "Collector.__eq__" (defScope s_Collector___eq__) (He.ma K (He.ga K "Collector") "__eq__") cdv A outer s H E).nox 3 (DRow K) := ((eqG_tup mon_flat eqG_flat).mono (by decide)).or (G.eqG fun _ _ _ d => let ⟨a, b, _, _, _, _, hx, hy, _⟩ := d; ⟨a, b, hx, hy⟩)
  refine ⟨_, pss_cons (ps_if (pw_or (pt_not (pt_val (pe_callB call_isi (by rfl) T.b_isinstance bt_isi (pa_cons (pv 1) (pa_cons (pe_glob (v := .ref (CC K)) (by rfl) T.m_Collector rfl) pa_nil))))) (pw_or1 (pt_cmpR op_ne (pe_fld (pv 0) rfl) (pe_fld (pv 1) rfl) (nomark _)))).pt (pss_one (ps_ret pe_bl)) pss_nil)
    (pss_one (ps_ret (pe_and (pe_cmpR (op_eqG G (hr.mono (by decide))) (pe_fld (pv 0) rfl) (pe_fld (pv 1) rfl) (nomark _)) (pe_one (pe_cmpR ((op_eqG (rcG_tup mon_drow GR) (hr.mono (by decide))).or (op_eqD hr.units)) (pe_fld (pv 0) rfl) (pe_fld (pv 1) rfl) (nomark _)))))), ?_⟩
  refine ⟨_, rfl, _, _, _, _, true, rfl, .own _, .base (.ins h2 T.c_Collector T.x_C_cls (by rfl) (by rfl) T.x_C_mro), T.x_C_self, true, rfl, iteF ⟨_, rfl, a, _, da, _, _, rfl, h1, T.c_Collector, T.n_Collector_capacity, fl_capacity, _, rfl, b, _, db, _, _, rfl, h2, T.c_Collector, T.n_Collector_capacity, fl_capacity, rfl, _, rfl, ?_⟩⟩
  rw [decide_eq_true rfl]
  have hba0 := hba
  have hbb0 := hbb
  obtain ⟨p1, d1, c1, rfl, e1, _⟩ := hba
  obtain ⟨p2, d2, c2, rfl, e2, _⟩ := hbb
  rw [← eb] at hbb0
  refine iteF ⟨_, rfl, a, _, da, _, _, rfl, h1, T.c_Collector, T.n_Collector_begin, fl_begin, _, rfl, b, _, db, _, _, rfl, h2, T.c_Collector, T.n_Collector_begin, fl_begin, ⟨p1, p2, d1, d2, _, _, rfl, rfl, e1, e2, _, hba0, hbb0⟩, fun H1 s1 => ⟨true, rfl, iteT ?_⟩⟩
  have s1' : Same H H1 := s1
  refine ⟨_, rfl, a, _, da, _, _, rfl, s1' _ _ h1, T.c_Collector, T.n_Collector_rows, fl_rows, _, rfl, b, _, db, _, _, rfl, s1' _ _ h2, T.c_Collector, T.n_Collector_rows, fl_rows, ?_⟩
  rcases cases2 with ⟨er, fin⟩ | ⟨t, u, et, eu, nt, nu, ln, fin⟩
  · obtain ⟨x, xs, rfl, hx, px⟩ := rows_same s1' hra
    rw [← er] at hrb
    obtain ⟨y, ys, rfl, hy, py⟩ := rows_same s1' hrb
    exact .inl ⟨⟨x, y, xs, ys, rfl, rfl, hx, hy, prs_pd (D := DRow K) (F := RowV K k H1) (fun _ _ _ h1 h2 => d_row h1 h2) px py⟩, fun H2 s2 => fin H2 (s1'.trans s2)⟩
  · rw [et] at hra
    rw [eu] at hrb
    refine .inr ⟨tabD t, tabD u, dp_tab (runs_tup (rows_same s1' hra)), dp_tab (runs_tup (rows_same s1' hrb)), tab_shaped nt, tab_shaped nu, ?_⟩
    rw [tab_ne ln]
    exact fin H1 s1'
end
end Kx
set_option Elab.async false
set_option linter.all false
set_option maxRecDepth 100000
set_option maxHeartbeats 4000000
namespace Kx
open PySem PySem.Spec PyProof.Rows L2
section
variable {P : Program} {w : World} {K : PySem.W.Frag} {mg : Str → Option Value} {base : Heap}
def spHist : Sp := fun vs H Q _ => ∃ (k : Nat) (p : Addr) (c : Col), vs = [.ref p] ∧ ColAt K k H p c ∧ c.past.length ≤ 1000 ∧ ∀ u H', Same H H' → TupOf K (ActV K k) H' u (c.past.map (·.1)) → Q u H'
theorem ok_CHistory (T : Tx w K mg) : Mt1 P w K mg base 1 (CC K) "history" ["self"] [] (spHist (K := K)) := by
  refine T.E_Collector_history (fun vs H Q E h => ?_) (fun cdv A outer s H vs Q E hr h => ?_)
  · obtain ⟨_, _, _, rfl, _⟩ := h
    rfl
  obtain ⟨k, p, c, rfl, ⟨dx, b, r, pt, h1, hb, hrw, ⟨a, xs, rfl, ha, hp⟩⟩, hz, fin⟩ := h
  have hl := pd_len hp
  refine ⟨_, pss_one (ps_ret (pe_callTy call_tuple_of rfl T.b_tuple bt_tuple (pa_cons (pe_lc (own := [("action", 1), ("state", 2)]) (g := gTup K 2 (gCons (gName 1) (gCons (gName 2) gNil))) (tt := tYes) rfl sc_Collector_history.nd (pi_tup (pe_fld (pv 0) rfl)) (blkOk_by (N := n_Collector_history) (sc := defScope s_Collector_history) (by decide +kernel))
    (fun _ _ _ _ _ => pg_tup rfl (pgs_cons (pg_name (i := 1) sc_Collector_history.nd rfl (Or.inl rfl)) (pgs_cons (pg_name (i := 2) sc_Collector_history.nd rfl (Or.inl rfl)) pgs_nil))) (fun _ _ _ _ _ => pts_nil) (fun _ _ _ _ _ => pv 1)) pa_nil))), ?_⟩
  refine ⟨_, rfl, p, _, dx, _, _, rfl, h1, T.c_Collector, T.n_Collector_past, fl_past, a, rfl, ⟨xs, ha⟩, fun D hD => ?_⟩
  refine lc_M (C := CC K) walk_tup c.past (·.1) (ActV K k) (stb_act T) hl.symm (by omega) hD (fun H' s => st_sm s ha) (fun i q v H1 H2 F1 hi s y f1 => ?_) fun ys H1 s hy q => ?_
  · obtain ⟨rfl, ex⟩ := y
    obtain ⟨q', eq, p', av, sv, rfl, hp', ha', hs'⟩ := pd_get hp ex
    rw [hi] at eq
    cases eq
    exact ⟨p', _, rfl, st_sm s hp', rfl, _, _, rfl, _, _, rfl, rfl, rfl, _, rfl, f1 _ _ (Same.refl _) (act_same s ha')⟩
  · refine ⟨D, ys, rfl, .inl ⟨SqL.of hy, fun l hl => ?_⟩⟩
    have s2 := sm_new (o := .tup ys) hl
    exact fin _ _ (s.trans s2) ⟨l, ys, rfl, .inl (.inl upd_same), pd_imp (fun _ _ h => act_same s2 h) q⟩
def runsOf (l : List Row) : Tab := l.filterMap fun
  | .run x n => some (x, n)
  | .sum _ => none
def Row.pr : Row → Str × Int
  | .run x n => (x, n)
  | .sum _ => ("", 0)
theorem runsOf_eq (l : List Row) : runsOf l = (l.filter fun r => !r.isS).map Row.pr := by
  unfold runsOf
  induction l with
  | nil => rfl
  | cons r l ih =>
    cases r with
    | run x n => simp [Row.isS, Row.pr, ih]
    | sum t => simp [Row.isS, ih]
def spCArrived : Sp := fun vs H Q _ => ∃ (k : Nat) (p : Addr) (c : Col), vs = [.ref p] ∧ ColAt K k H p c ∧ c.q.2.length ≤ 100 ∧ (tab (runsOf c.q.2)).length ≤ 12 ∧ ∀ u H', Same H H' → TupOf K (PrV K) H' u (flatP (tab (runsOf c.q.2))) → Q u H'
theorem ok_CArrived (T : Tx w K mg) : Mt1 P w K mg base 2 (CC K) "arrived" ["self"] [] (spCArrived (K := K)) := by
  refine T.E_Collector_arrived (fun vs H Q E h => ?_) (fun cdv A outer s H vs Q E hr h => ?_)
  · obtain ⟨_, _, _, rfl, _⟩ := h
    rfl
  obtain ⟨k, p, c, rfl, ⟨dx, b, r, pt, h1, hb, ⟨a, xs, rfl, ha, hp⟩, _⟩, hz, h12, fin⟩ := h
  have hl := pd_len hp
  obtain ⟨tk, hm⟩ := T.i_MAX_NAMES
  refine ⟨_, pss_cons (ps_set (i := 1) sc_Collector_arrived.nd rfl (Or.inl rfl) (pe_f (ok_table_of T) hr (pa_cons (pe_lc (own := [("row", 2)]) rfl sc_Collector_arrived.nd (pi_tup (pe_fld (pv 0) rfl)) (blkOk_by (N := n_Collector_arrived) (sc := defScope s_Collector_arrived) (by decide +kernel))
      (fun _ _ _ _ _ => pg_name (i := 2) sc_Collector_arrived.nd rfl (Or.inl rfl)) (fun _ _ _ _ _ => pts_one (pt_not (pt_val (pe_f (ok_is_summary T) hr (pa_cons (pv 2) pa_nil))))) (fun _ _ _ _ _ => pv 2)) pa_nil)))
    (pss_cons (ps_if (pt_cmpR op_gt (pe_callB call_lenD rfl T.b_len bt_len (pa_cons (pv 1) pa_nil)) (pe_glob (v := .int 12) (by rfl) hm ⟨_, rfl⟩) (nomark _)) pss_never pss_nil)
    (pss_one (ps_ret (pe_f (ok_counts_of_table T) hr (pa_cons (pv 1) pa_nil))))), ?_⟩
  refine ⟨_, rfl, p, _, dx, _, _, rfl, h1, T.c_Collector, T.n_Collector_rows, fl_rows, a, rfl, ⟨xs, ha⟩, fun D hD => ?_⟩
  refine lc_R (C := 0) walk_tup c.q.2 (fun r => !r.isS) Row.pr (PrV K) stb_pr hl.symm (by omega) hD (fun H' s => st_sm s ha) (fun i r v H1 H2 F1 F0 hi s y f1 f0 => ?_) fun ys H1 s1 hy q => ?_
  · obtain ⟨rfl, ex⟩ := y
    obtain ⟨r', er, hr'⟩ := pd_get hp ex
    rw [hi] at er
    cases er
    have hr2 := row_same s hr'
    refine ⟨rfl, _, rfl, v, k, r, rfl, hr2, r.isS, rfl, ?_⟩
    cases r with
    | run x n => exact iteT ⟨_, rfl, f1 rfl _ _ (Same.refl _) hr2⟩
    | sum t => exact iteF (f0 rfl _ (Same.refl _))
  · rw [← runsOf_eq] at q
    have zl : (runsOf c.q.2).length ≤ 1000 := by
      rw [runsOf_eq, List.length_map]
      exact Nat.le_trans (List.length_filter_le ..) (by omega)
    refine ⟨D, ys, _, rfl, .inr hy, q, zl, fun d H2 s2 hd2 h2 => ⟨_, rfl, d, _, rfl, h2, _, 12, rfl, rfl, _, rfl, ?_⟩⟩
    rw [kd_len, decide_eq_false (show ¬ ((12 : Int) < ((tab (runsOf c.q.2)).length : Nat)) by omega)]
    exact iteF ⟨_, rfl, d, _, rfl, h2, by omega, fun v H3 s3 hv => fin v H3 (s1.trans (s2.trans s3)) hv⟩
/-! ### many actions -/
def aftL (q : Sta) (l : List Act) : Sta := l.foldl aft q
def pst : Sta → List Act → List (Act × Sta)
  | _, [] => []
  | q, a :: r => (a, q) :: pst (aft q a) r
def ActsOk (k : Nat) : Sta → List Act → Prop
  | _, [] => True
  | q, a :: r => ActOk k q.2.length a ∧ ActsOk k (aft q a) r
theorem aftL_snoc {q : Sta} {l : List Act} {a : Act} : aftL q (l ++ [a]) = aft (aftL q l) a := by
  unfold aftL
  rw [List.foldl_append]
  rfl
theorem pst_snoc : ∀ {l : List Act} {q : Sta} {a : Act}, pst q (l ++ [a]) = pst q l ++ [(a, aftL q l)]
  | [], _, _ => rfl
  | b :: l, q, a => by
    show (b, q) :: pst (aft q b) (l ++ [a]) = (b, q) :: (pst (aft q b) l ++ [(a, aftL (aft q b) l)])
    rw [pst_snoc]
theorem actsOk_at {k : Nat} : ∀ {l : List Act} {q : Sta} {i : Nat} {a : Act}, ActsOk k q l → l[i]? = some a → ActOk k (aftL q (l.take i)).2.length a
  | [], _, _, _, _, e => by simp at e
  | b :: l, q, 0, a, h, e => by
    simp at e
    subst e
    exact h.1
  | b :: l, q, i + 1, a, h, e => actsOk_at (l := l) (q := aft q b) (i := i) h.2 (by simpa using e)
theorem aft_len {q : Sta} {a : Act} : (aft q a).2.length ≤ q.2.length + 1 := by
  cases a <;> simp [aft] <;> omega
theorem aftL_len : ∀ {l : List Act} {q : Sta}, (aftL q l).2.length ≤ q.2.length + l.length
  | [], q => Nat.le_refl _
  | a :: l, q => by
    have h1 := aftL_len (l := l) (q := aft q a)
    have h2 := aft_len (q := q) (a := a)
    rw [List.length_cons]
    show (aftL (aft q a) l).2.length ≤ _
    omega
theorem pst_len : ∀ {l : List Act} {q : Sta}, (pst q l).length = l.length
  | [], _ => rfl
  | a :: l, q => congrArg Nat.succ (pst_len (l := l) (q := aft q a))
theorem aftL_ok {k : Nat} : ∀ {l : List Act} {q : Sta}, StOk k q → ActsOk k q l → StOk k (aftL q l)
  | [], _, h, _ => h
  | a :: l, q, h, o => aftL_ok (l := l) (aft_ok h o.1) o.2
def spDoAll : Sp := fun vs H Q _ => ∃ (k : Nat) (p : Addr) (v : V) (c : Col) (l : List Act), vs = [.ref p, v, .non] ∧ ColAt K k H p c ∧ c.busy = false ∧ TupOf K (ActV K k) H v l ∧ ActsOk k c.q l ∧ StOk k c.q ∧ 1 ≤ k ∧ k ≤ 8 ∧ c.q.2.length + l.length ≤ 90 ∧ c.past.length + l.length ≤ 200 ∧
  ∀ u H' n, But p H H' → ColAt K k H' p ⟨aftL c.q l, c.past ++ pst c.q l, false, n⟩ → SumV K H' u (k, cur k (aftL c.q l)) → Q u H'
theorem ok_CDoAll (T : Tx w K mg) : Mt1 P w K mg base 10 (CC K) "do_all" ["self", "actions", "observer"] [.non] (spDoAll (K := K)) := by
  obtain ⟨fd, F, D⟩ : ∃ fd, FnOk P w K mg base CX0 10 (He.ma K (He.ga K "Collector") "do_all") fd ["self", "actions", "observer"] (spDoAll (K := K)) ∧ _ := T.G_Collector_do_all (k := 9) (sp := spDoAll (K := K)) (fun vs H Q E h => by
    obtain ⟨_, _, _, _, _, rfl, _⟩ := h
    rfl) (fun cdv A outer s H vs Q E hr h => by
    obtain ⟨k, p, v, c, l, rfl, hc, hbz, hv, hok, hst, hk, hk8, hz1, hz2, fin⟩ := h
    have hv0 := hv
    obtain ⟨a, xs, rfl, ha, hp⟩ := hv
    obtain ⟨dx, b, r, pt, h1, hb, hrw, hpst⟩ := hc
    refine ⟨_, pss_cons (ps_if (pt_val (pe_fld (pv 0) rfl)) pss_never pss_nil)
      (pss_cons (ps_expr (pe_f (ok_check_actions T) (hr.mono (by decide)) (pa_cons (pv 1) pa_nil)))
      (pss_cons (ps_fldaug (pv 0) pe_int in_add)
      (pss_cons (ps_asg (pe_tup (pa_cons (pe_fld (pv 0) rfl) (pa_cons (pe_fld (pv 0) rfl) (pa_cons (pe_fld (pv 0) rfl) (pa_cons (pe_tup pa_nil) pa_nil))))) (pg_tup rfl (pgs_cons (pg_name (i := 3) sc_Collector_do_all.nd rfl (Or.inl rfl)) (pgs_cons (pg_name (i := 4) sc_Collector_do_all.nd rfl (Or.inl rfl)) (pgs_cons (pg_name (i := 5) sc_Collector_do_all.nd rfl (Or.inl rfl)) (pgs_cons (pg_name (i := 6) sc_Collector_do_all.nd rfl (Or.inl rfl)) pgs_nil))))))
      (pss_cons (ps_fld (pv 0) pe_bl rfl)
      (pss_cons (ps_finN (pss_cons (ps_for PassesOwn.never rfl (pi_enumT (by rfl) T.b_enumerate (pa_cons (pv 1) pa_nil)) (pg_tup rfl (pgs_cons (pg_name (i := 7) sc_Collector_do_all.nd rfl (Or.inl rfl)) (pgs_cons (pg_name (i := 8) sc_Collector_do_all.nd rfl (Or.inl rfl)) pgs_nil)))
            (pss_cons (ps_expr (pe_m (ok_CChange T) (hr.mono (by decide)) (pv 0) (pa_cons (pv 8) pa_nil))) (pss_one (ps_if (pt_cmp (pc_notN (pv 2))) pss_never pss_nil))))
          (pss_one (ps_set (i := 6) sc_Collector_do_all.nd rfl (Or.inl rfl) pe_non)))
        (pss_cons (ps_fld (pv 0) pe_bl rfl) (pss_one (ps_if (pt_cmp (pc_notN (pv 6))) pss_never pss_nil))))
      (pss_one (ps_ret (pe_m0 (ok_CCurrent T) hr (pv 0))))))))), ?_⟩
    refine ⟨_, rfl, p, _, dx, _, _, rfl, h1, T.c_Collector, T.n_Collector_busy, fl_busy, _, rfl, ?_⟩
    rw [hbz]
    refine iteF ⟨_, rfl, _, k, l, rfl, hv0, fun H1 s1 => ?_⟩
    have h1a := s1 _ _ h1
    rw [hbz] at h1a
    refine ⟨_, rfl, p, _, dx, _, _, rfl, h1a, T.c_Collector, T.n_Collector_attempts, fl_attempts, _, _, rfl, rfl, dx, _, h1a, fl_few, ?_⟩
    rw [pf_attempts]
    generalize e2 : upd H1 p (.ins (CC K) dx (fl k b r pt false (c.n + 1))) = H2
    have b2 : But p H1 H2 := e2 ▸ bt_upd
    have h2 : H2 p = some (.ins (CC K) dx (fl k b r pt false (c.n + 1))) := e2 ▸ upd_same
    refine ⟨_, rfl, p, _, dx, _, _, rfl, h2, T.c_Collector, T.n_Collector_begin, fl_begin, _, rfl, p, _, dx, _, _, rfl, h2, T.c_Collector, T.n_Collector_rows, fl_rows, _, rfl, p, _, dx, _, _, rfl, h2, T.c_Collector, T.n_Collector_past, fl_past, Nat.zero_le _, fun z hz' => ⟨by show 4 ≤ sizeLine; decide, fun y hy => ?_⟩⟩
    generalize e3 : upd (upd H2 z (.tup [])) y (.tup [b, r, pt, .ref z]) = H3
    have s3 : Same H2 H3 := e3 ▸ Same.trans (sm_new hz') (sm_new hy)
    have hy3 : H3 y = some (.tup [b, r, pt, .ref z]) := e3 ▸ upd_same
    refine ⟨y, _, rfl, .inl (.inl hy3), rfl, _, _, rfl, _, _, rfl, _, _, rfl, _, _, rfl, rfl, ?_⟩
    refine ⟨_, rfl, p, _, dx, _, rfl, s3 _ _ h2, T.c_Collector, T.n_Collector_busy, fl_few, ?_⟩
    rw [pf_busy]
    generalize e4 : upd H3 p (.ins (CC K) dx (fl k b r pt true (c.n + 1))) = H4
    have b4 : But p H3 H4 := e4 ▸ bt_upd
    have h4 : H4 p = some (.ins (CC K) dx (fl k b r pt true (c.n + 1))) := e4 ▸ upd_same
    have b04 : But p H H4 := (sm_bt s1).tr (b2.tr ((sm_bt s3).tr b4))
    have t04 : Tv (CC K) H H4 := ins_tv h1 b04
    have c4 : ColAt K k H4 p ⟨c.q, c.past, true, c.n + 1⟩ := ⟨dx, b, r, pt, h4, (stb_sum T).tv t04 hb, (stb_tup (stb_row T)).tv t04 hrw, (stb_tup (stb_past T)).tv t04 hpst⟩
    have hv4 := (stb_tup (stb_act T)).tv t04 hv0
    have ha4 := st_tv t04 ha
    have hl := pd_len hp
    refine ⟨_, rfl, a, xs, rfl, ha4, ?_⟩
    refine for_it walk_enumT (fun i σ H' => But p H4 H' ∧ (∃ x y, σ = [some (.ref p), some (.ref a), some .non, some b, some r, some pt, some (.ref z), x, y]) ∧ ColAt K k H' p ⟨aftL c.q (l.take i), c.past ++ pst c.q (l.take i), true, c.n + 1⟩) ⟨But.refl, ⟨none, none, rfl⟩, by rw [show pst c.q (l.take 0) = [] from rfl, List.append_nil]; exact c4⟩ (fun i σ H' _ q => st_tv (ins_tv h4 q.1) ha4) (fun i x σ H5 H6 hi q y => ?_) fun σ H5 q => ?_
    · obtain ⟨b5, ⟨x0, y0, rfl⟩, c5⟩ := q
      obtain ⟨T0, j, v, rfl, hT, rfl, ej, ev⟩ := y
      cases ej
      obtain ⟨q0, eq, hq⟩ := pd_get (show Paired (ActV K k H4) xs l from by
        obtain ⟨a', xs', e', ha', hp'⟩ := hv4
        cases e'
        exact pd_imp (fun _ _ h => (stb_act T).tv t04 h) hp) ev
      have et : l.take (i + 1) = l.take i ++ [q0] := by
        rw [List.take_succ, eq]
        rfl
      have s6 : Same H5 (upd H5 T0 (.tup [.int i, v])) := sm_new hT
      have c6 := col_same s6 c5
      have hil : i < l.length := by omega
      have l1 := aftL_len (l := l.take i) (q := c.q)
      have l2 := pst_len (l := l.take i) (q := c.q)
      rw [List.length_take] at l1 l2
      obtain ⟨dx6, b6, r6, pt6, h6, _⟩ := id c6
      refine ⟨T0, _, rfl, .inl (.inl upd_same), rfl, _, _, rfl, _, _, rfl, rfl, ?_⟩
      refine ⟨_, rfl, p, dx6, _, rfl, h6, fl_no (by decide +kernel), _, rfl, k, p, v, _, q0, rfl, c6, (stb_act T).tv ((ins_tv h4 b5).tr (sm_tv s6)) hq, actsOk_at hok eq, by show (aftL c.q (l.take i)).2.length ≤ 90; omega, by show (c.past ++ pst c.q (l.take i)).length ≤ 200; rw [List.length_append]; omega, fun H7 b7 c7 => ?_⟩
      refine ⟨_, rfl, false, rfl, iteF ⟨b5.tr ((sm_bt s6).tr b7), ⟨_, _, rfl⟩, ?_⟩⟩
      rw [et, aftL_snoc, pst_snoc, ← List.append_assoc]
      exact c7
    · obtain ⟨b5, ⟨x0, y0, rfl⟩, c5⟩ := q
      rw [hl, List.take_length] at c5
      obtain ⟨dx5, bb5, rr5, pt5, h5, hb5, hr5, hp5⟩ := c5
      refine ⟨_, rfl, p, _, dx5, _, rfl, h5, T.c_Collector, T.n_Collector_busy, fl_few, ?_⟩
      rw [pf_busy]
      refine ⟨_, rfl, false, rfl, iteF ?_⟩
      generalize e6 : upd H5 p (.ins (CC K) dx5 (fl k bb5 rr5 pt5 false (c.n + 1))) = H6
      have b6 : But p H5 H6 := e6 ▸ bt_upd
      have h6 : H6 p = some (.ins (CC K) dx5 (fl k bb5 rr5 pt5 false (c.n + 1))) := e6 ▸ upd_same
      have t6 := ins_tv h5 b6
      have c6 : ColAt K k H6 p ⟨aftL c.q l, c.past ++ pst c.q l, false, c.n + 1⟩ := ⟨dx5, bb5, rr5, pt5, h6, (stb_sum T).tv t6 hb5, (stb_tup (stb_row T)).tv t6 hr5, (stb_tup (stb_past T)).tv t6 hp5⟩
      refine ⟨_, rfl, p, dx5, _, rfl, h6, fl_no (by decide +kernel), k, p, _, rfl, c6, aftL_ok hst hok, hk, hk8, fun u H7 s7 hu => ?_⟩
      exact fin u H7 (c.n + 1) (b04.tr (b5.tr (b6.tr (sm_bt s7)))) (col_same s7 c6) hu)
  obtain ⟨ds, h1, h2⟩ := D.binds0 (ps := ["self", "actions", "observer"]) 2 (by simp) rfl (fun _ _ _ _ _ _ us ks hl h2 => match us, ks, hl, h2 with | [_, _], [_], _, _ => ⟨_, _, _, _, _, _, rfl, rfl, rfl⟩)
  exact ⟨_, fd, ds, F, T.c_Collector, T.me_Collector_do_all, h2, h1⟩
end
end Kx
set_option Elab.async false
set_option linter.all false
set_option maxRecDepth 100000
set_option maxHeartbeats 4000000
namespace Kx
open PySem PySem.Spec PyProof.Rows L2
section
variable {P : Program} {w : World} {K : PySem.W.Frag} {mg : Str → Option Value} {base : Heap}
def spPreview : Sp := fun vs H Q _ => ∃ (k : Nat) (p : Addr) (v : V) (c : Col) (l : List Act), vs = [.ref p, v] ∧ ColAt K k H p c ∧ TupOf K (ActV K k) H v l ∧ ActsOk k c.q l ∧ StOk k c.q ∧ 1 ≤ k ∧ k ≤ 8 ∧ c.q.2.length + l.length ≤ 90 ∧
  ∀ u H', Same H H' → SumV K H' u (k, cur k (aftL c.q l)) → Q u H'
theorem ok_CPreview (T : Tx w K mg) : Mt1 P w K mg base 9 (CC K) "preview" ["self", "actions"] [] (spPreview (K := K)) := by
  refine T.E_Collector_preview (fun vs H Q E h => ?_) (fun cdv A outer s H vs Q E hr h => ?_)
  · obtain ⟨_, _, _, _, _, rfl, _⟩ := h
    rfl
  obtain ⟨k, p, v, c, l, rfl, ⟨dx, b, r, pt, h1, hb, hrw, hpst⟩, hv, hok, hst, hk, hk8, hz, fin⟩ := h
  have hv0 := hv
  obtain ⟨a, xs, rfl, ha, hp⟩ := hv
  have hl := pd_len hp
  refine ⟨_, pss_cons (ps_expr (pe_f (ok_check_actions T) (hr.mono (by decide)) (pa_cons (pv 1) pa_nil)))
    (pss_cons (ps_set (i := 2) sc_Collector_preview.nd rfl (Or.inl rfl) (pe_tup (pa_cons (pe_fld (pv 0) rfl) (pa_cons (pe_fld (pv 0) rfl) pa_nil))))
    (pss_cons (ps_for PassesOwn.never rfl (pi_tup (pv 1)) (pg_name (i := 3) sc_Collector_preview.nd rfl (Or.inl rfl)) (pss_one (ps_set (i := 2) sc_Collector_preview.nd rfl (Or.inl rfl) (pe_f (ok_state_after T) (hr.mono (by decide)) (pa_cons (pe_fld (pv 0) rfl) (pa_cons (pv 2) (pa_cons (pv 3) pa_nil)))))))
    (pss_one (ps_ret (pe_f (ok_current_of T) hr (pa_cons (pe_ix ix_tup (pv 2) pe_int (fun _ _ => rfl)) (pa_cons (pe_ix ix_tup (pv 2) pe_int (fun _ _ => rfl)) pa_nil))))))), ?_⟩
  refine ⟨_, rfl, _, k, l, rfl, hv0, fun H1 s1 => ⟨_, rfl, p, _, dx, _, _, rfl, s1 _ _ h1, T.c_Collector, T.n_Collector_begin, fl_begin, _, rfl, p, _, dx, _, _, rfl, s1 _ _ h1, T.c_Collector, T.n_Collector_rows, fl_rows, by show 2 ≤ sizeLine; decide, fun sp hsp => ?_⟩⟩
  have s2 : Same H1 (upd H1 sp (.tup [b, r])) := sm_new hsp
  have s02 := s1.trans s2
  refine ⟨_, rfl, a, rfl, ⟨xs, st_sm s02 ha⟩, ?_⟩
  refine for_it walk_tup (fun i σ H' => Same H H' ∧ ∃ u x, σ = [some (.ref p), some (.ref a), some u, x] ∧ StV K k H' u (aftL c.q (l.take i))) ⟨s02, .ref sp, none, rfl, sp, b, r, rfl, .inl (.inl upd_same), sum_same s02 hb, rows_same s02 hrw⟩ (fun i σ H' _ q => st_sm q.1 ha) (fun i x σ H3 H4 hi q y => ?_) fun σ H3 q => ?_
  · obtain ⟨s3, u, x0, rfl, hu⟩ := q
    obtain ⟨rfl, ex⟩ := y
    obtain ⟨q0, eq, hq⟩ := pd_get hp ex
    have et : l.take (i + 1) = l.take i ++ [q0] := by
      rw [List.take_succ, eq]
      rfl
    have l1 := aftL_len (l := l.take i) (q := c.q)
    rw [List.length_take] at l1
    have hil : i < l.length := by omega
    refine ⟨_, rfl, p, _, dx, _, _, rfl, s3 _ _ h1, T.c_Collector, T.n_Collector_capacity, fl_capacity, _, rfl, _, rfl, k, u, x, _, q0, rfl, hu, act_same s3 hq, actsOk_at hok eq, by omega, fun u2 H5 s5 hu2 => ⟨s3.trans s5, u2, some x, rfl, ?_⟩⟩
    rw [et, aftL_snoc]
    exact hu2
  · obtain ⟨s3, u, x0, rfl, hu⟩ := q
    rw [hl, List.take_length] at hu
    obtain ⟨p2, b2, r2, rfl, hp2, hb2, hr2⟩ := hu
    exact ⟨_, rfl, p2, _, 0, _, rfl, rfl, hp2, atI_nat (j := 0) rfl, _, rfl, p2, _, 1, _, rfl, rfl, hp2, atI_nat (j := 1) rfl, k, b2, r2, _, rfl, hb2, hr2, aftL_ok hst hok, hk, hk8, fun u H4 s4 hu => fin u H4 (s3.trans s4) hu⟩
def spUndo : Sp := fun vs H Q _ => ∃ (k : Nat) (p : Addr) (c : Col) (ps : List (Act × Sta)) (a : Act) (q : Sta), vs = [.ref p] ∧ ColAt K k H p c ∧ c.busy = false ∧ c.past = ps ++ [(a, q)] ∧ ps.length ≤ 1000 ∧ StOk k q ∧ 1 ≤ k ∧ k ≤ 8 ∧
  ∀ u H', But p H H' → ColAt K k H' p ⟨q, ps, false, c.n⟩ → SumV K H' u (k, cur k q) → Q u H'
theorem pd_snoc' {α β : Type} {F : α → β → Prop} : ∀ {xs : List α} {l : List β} {y : β}, Paired F xs (l ++ [y]) → ∃ ys x, xs = ys ++ [x] ∧ Paired F ys l ∧ F x y
  | _, [], _, .cons r .nil => ⟨[], _, rfl, .nil, r⟩
  | _, _ :: _, _, .cons r t => by
    obtain ⟨ys, x, rfl, h1, h2⟩ := pd_snoc' t
    exact ⟨_ :: ys, x, rfl, .cons r h1, h2⟩
theorem ok_CUndo (T : Tx w K mg) : Mt1 P w K mg base 10 (CC K) "undo" ["self"] [] (spUndo (K := K)) := by
  refine T.E_Collector_undo (fun vs H Q E h => ?_) (fun cdv A outer s H vs Q E hr h => ?_)
  · obtain ⟨_, _, _, _, _, _, rfl, _⟩ := h
    rfl
  obtain ⟨k, p, c, ps, a, q, rfl, ⟨dx, b, r, pt, h1, hb, hrw, hpst⟩, hbz, epast, hz, hst, hk, hk8, fin⟩ := h
  rw [epast] at hpst
  obtain ⟨ap, xs, rfl, ha, hp⟩ := hpst
  obtain ⟨ys, x, rfl, hys, hx⟩ := pd_snoc' hp
  refine ⟨_, pss_cons (ps_if (pt_val (pe_fld (pv 0) rfl)) pss_never pss_nil)
    (pss_cons (ps_if (pt_cmpR (op_eqNil hr.units0) (pe_fld (pv 0) rfl) (pe_tup pa_nil) (nomark _)) pss_never pss_nil)
    (pss_cons (ps_asg (pe_fld (pv 0) rfl) (pg_star (k := 0) (j := 1) rfl (pgs_star (pg_name (i := 1) sc_Collector_undo.nd rfl (Or.inl rfl)) (pgs_cons (pg_tup rfl (pgs_cons (pg_name (i := 2) sc_Collector_undo.nd rfl (Or.inl rfl)) (pgs_cons (pg_name (i := 3) sc_Collector_undo.nd rfl (Or.inl rfl)) pgs_nil))) pgs_nil))))
    (pss_cons (ps_asg (pv 3) (pg_tup rfl (pgs_cons (pg_fld (pv 0)) (pgs_cons (pg_fld (pv 0)) pgs_nil))))
    (pss_cons (ps_fld (pv 0) (pe_callTy call_tuple_of rfl T.b_tuple bt_tuple (pa_cons (pv 1) pa_nil)) rfl)
    (pss_one (ps_ret (pe_m0 (ok_CCurrent T) hr (pv 0)))))))), ?_⟩
  refine ⟨_, rfl, p, _, dx, _, _, rfl, h1, T.c_Collector, T.n_Collector_busy, fl_busy, _, rfl, ?_⟩
  rw [hbz]
  refine iteF ⟨_, rfl, p, _, dx, _, _, rfl, h1, T.c_Collector, T.n_Collector_past, fl_past, Nat.zero_le _, fun z hz' => ?_⟩
  have s1 : Same H (upd H z (.tup [])) := sm_new hz'
  refine ⟨ap, z, _, rfl, rfl, st_sm s1 ha, .inl (.inl upd_same), false, by cases ys <;> rfl, iteF ?_⟩
  refine ⟨_, rfl, p, _, dx, _, _, rfl, s1 _ _ h1, T.c_Collector, T.n_Collector_past, fl_past, ap, _, rfl, st_sm s1 ha, by rw [List.length_append]; simp, fun lp hlp => ?_⟩
  have e1 : ((ys ++ [x]).drop 0).take ((ys ++ [x]).length - 0 - 1) = ys := by simp
  have e2 : ((ys ++ [x]).drop 0).drop ((ys ++ [x]).length - 0 - 1) = [x] := by simp
  rw [e1, e2]
  obtain ⟨px, av, sv, rfl, hpx, hav, hsv⟩ := hx
  generalize eH2 : upd (upd H z (.tup [])) lp (.lst ys) = H2
  have s2 : Same H H2 := eH2 ▸ s1.trans (sm_new hlp)
  have hlp2 : H2 lp = some (.lst ys) := eH2 ▸ upd_same
  refine ⟨_, _, rfl, _, _, rfl, ⟨px, _, rfl, st_sm s2 hpx, rfl, _, _, rfl, _, _, rfl, rfl, rfl, ?_⟩⟩
  obtain ⟨p2, b2, r2, rfl, hp2, hb2, hr2⟩ := hsv
  have h2 := s2 _ _ h1
  refine ⟨_, rfl, p2, _, rfl, st_sm s2 hp2, rfl, _, _, rfl, _, rfl, p, _, dx, _, rfl, h2, T.c_Collector, T.n_Collector_begin, fl_few, _, _, rfl, _, rfl, p, _, dx, _, rfl, upd_same, T.c_Collector, T.n_Collector_rows, by rw [pf_begin]; exact fl_few, rfl, ?_⟩
  rw [pf_begin, pf_rows]
  generalize eH3 : upd (upd H2 p (.ins (CC K) dx (fl k b2 r (.ref ap) c.busy c.n))) p (.ins (CC K) dx (fl k b2 r2 (.ref ap) c.busy c.n)) = H3
  have b3 : But p H2 H3 := eH3 ▸ bt_upd.tr bt_upd
  have h3 : H3 p = some (.ins (CC K) dx (fl k b2 r2 (.ref ap) c.busy c.n)) := eH3 ▸ upd_same
  have nlp : lp ≠ p := fun e => by
    rw [e, h2] at hlp2
    cases hlp2
  refine ⟨_, rfl, lp, ys, rfl, .inl ⟨SqL.of (b3 _ _ hlp2 nlp), fun np hnp => ?_⟩⟩
  have s4 : Same H3 (upd H3 np (.tup ys)) := sm_new hnp
  refine ⟨_, rfl, p, _, dx, _, rfl, s4 _ _ h3, T.c_Collector, T.n_Collector_past, fl_few, ?_⟩
  rw [pf_past]
  generalize eH5 : upd (upd H3 np (.tup ys)) p (.ins (CC K) dx (fl k b2 r2 (.ref np) c.busy c.n)) = H5
  have b5 : But p H3 H5 := eH5 ▸ (sm_bt s4).tr bt_upd
  have h5 : H5 p = some (.ins (CC K) dx (fl k b2 r2 (.ref np) c.busy c.n)) := eH5 ▸ upd_same
  have nnp : np ≠ p := (ne_of_none h3 hnp).symm
  have hnp5 : H5 np = some (.tup ys) := by rw [← eH5, upd_ne nnp, upd_same]
  have b05 : But p H H5 := (sm_bt s2).tr (b3.tr b5)
  have t05 : Tv (CC K) H H5 := ins_tv h1 b05
  rw [hbz] at h5
  have c5 : ColAt K k H5 p ⟨q, ps, false, c.n⟩ := ⟨dx, b2, r2, .ref np, h5, (stb_sum T).tv t05 hb2, (stb_tup (stb_row T)).tv t05 hr2, np, ys, rfl, .inl (.inl hnp5), pd_imp (fun _ _ h => (stb_past T).tv t05 h) hys⟩
  refine ⟨_, rfl, p, dx, _, rfl, h5, fl_no (by decide +kernel), k, p, _, rfl, c5, hst, hk, hk8, fun u H6 s6 hu => ?_⟩
  exact fin u H6 (b05.tr (sm_bt s6)) (col_same s6 c5) hu
/-- a change told -/
def ChgV (K : PySem.W.Frag) (H : Hp) (v : V) (o : Option Str) : Prop := ∃ p, v = .ref p ∧ SqT K H p (match o with | none => [.str "less"] | some x => [.str "more", .str x])
def mid (rs : Tab) (i : Nat) (x : Str) : Tab := rs.take i ++ [(x, 1)] ++ rs.drop i
def hgh (a b : Tab) : Tab := a.filter fun p => decide (val b p.1 < p.2)
def spLate : Sp := fun vs H Q _ => ∃ (sv ov : V) (k i : Nat) (x : Str) (t rs : Tab), vs = [sv, ov, .int i, .str x] ∧ SumV K H sv (k, t) ∧ Cn k t ∧ 1 ≤ k ∧ k ≤ 8 ∧ TupOf K (PrV K) H ov rs ∧ Od rs ∧ rs.length ≤ 900 ∧ i ≤ rs.length ∧ IsNm x ∧
  (((play k t rs).2 < (play k t (mid rs i x)).2 ∧ ∀ u H', Same H H' → ChgV K H' u none → Q u H') ∨
   (¬ (play k t rs).2 < (play k t (mid rs i x)).2 ∧ ∃ e r, hgh (play k t (mid rs i x)).1 (play k t rs).1 = e :: r ∧ ∀ u H', Same H H' → ChgV K H' u (some e.1) → Q u H'))
theorem ok_late_change (T : Tx w K mg) : Fn1 P w K mg base 6 "late_change" ["start", "order", "index", "name"] [] (spLate (K := K)) := by
  refine T.E_late_change (fun vs H Q E h => ?_) (fun cdv A outer s H vs Q E hr h => ?_)
  · obtain ⟨_, _, _, _, _, _, _, rfl, _⟩ := h
    rfl
  obtain ⟨sv, ov, k, i, x, t, rs, rfl, hs, cn, hk, hk8, hov, od, hz, hi, hx, fin⟩ := h
  have hu := hu_of hr
  have hs0 := hs
  obtain ⟨p, dx, c, rfl, h1, tc⟩ := hs
  obtain ⟨oa, oxs, rfl, hoa, hop⟩ := id hov
  have ol := pd_len hop
  refine ⟨_, pss_cons (ps_expr (pe_f (ok_check_summary T) (hr.mono (by decide)) (pa_cons (pv 0) pa_nil)))
    (pss_cons (ps_expr (pe_f (ok_check_order T) hr (pa_cons (pv 1) pa_nil)))
    (pss_cons (ps_if (pt_not (pt_val (pe_f (ok_is_between T) (hr.mono (by decide)) (pa_cons (pv 2) (pa_cons pe_int (pa_cons (pe_callB call_len_seq (by rfl) T.b_len bt_len (pa_cons (pv 1) pa_nil)) pa_nil)))))) pss_never pss_nil)
    (pss_cons (ps_expr (pe_f (ok_check_name T) (hr.mono (by decide)) (pa_cons (pv 3) pa_nil)))
    (pss_cons (ps_set (i := 4) sc_late_change.nd rfl (Or.inl rfl) (pe_f (ok_table_of T) (hr.mono (by decide)) (pa_cons (pe_fld (pv 0) rfl) pa_nil)))
    (pss_cons (ps_asg (pe_f (ok_played T) (hr.mono (by decide)) (pa_cons (pe_fld (pv 0) rfl) (pa_cons (pv 4) (pa_cons (pv 1) pa_nil)))) (pg_tup rfl (pgs_cons (pg_name (i := 5) sc_late_change.nd rfl (Or.inr rfl)) (pgs_cons (pg_name (i := 6) sc_late_change.nd rfl (Or.inl rfl)) pgs_nil))))
    (pss_cons (ps_asg (pe_f (ok_played T) (hr.mono (by decide)) (pa_cons (pe_fld (pv 0) rfl) (pa_cons (pv 4) (pa_cons (pe_op op_catA (pe_op op_catA (pe_slice sl_tupA (pv 1) po_none (po_some (pv 2))) (pe_tup (pa_cons (pe_tup (pa_cons (pv 3) (pa_cons pe_int pa_nil))) pa_nil))) (pe_slice sl_tupA (pv 1) (po_some (pv 2)) po_none)) pa_nil))))
      (pg_tup rfl (pgs_cons (pg_name (i := 7) sc_late_change.nd rfl (Or.inr rfl)) (pgs_cons (pg_name (i := 8) sc_late_change.nd rfl (Or.inl rfl)) pgs_nil))))
    (pss_cons (ps_if (pt_cmpR op_gt (pv 8) (pv 6) (nomark _)) (pss_one (ps_ret (pe_tup (pa_cons pe_str pa_nil)))) pss_nil)
    (pss_one (ps_ret (pe_tup (pa_cons pe_str (pa_cons (pe_ix ix_list (pe_lock (pe_lc (own := [("item", 9)]) rfl sc_late_change.nd (pi_keys (pv 7)) (blkOk_by (N := n_late_change) (sc := defScope s_late_change) (by decide +kernel))
      (fun _ _ _ _ _ => pg_name (i := 9) sc_late_change.nd rfl (Or.inl rfl)) (fun _ _ _ _ _ => pts_one (pt_cmpR op_gt (pe_dget hu (pv 7) (pv 9) (fun _ _ => rfl)) (pe_dget2 hu (pv 5) (pv 9) pe_int ⟨rfl, rfl, rfl, rfl⟩) (nomark _))) (fun _ _ _ _ _ => pv 9))) pe_int (fun _ _ => rfl)) pa_nil)))))))))))), ?_⟩
  refine ⟨_, rfl, _, (k, t), rfl, hs0, _, rfl, _, rs, rfl, hov, od, fun H1 s1 => ?_⟩
  refine ⟨_, rfl, _, rfl, oa, oxs, rfl, .inr (st_sm s1 hoa), (i : Int), 0, (oxs.length : Nat), rfl, by omega, by omega, true, rfl, iteF ⟨_, rfl, x, rfl, hx, fun H2 s2 => ?_⟩⟩
  have s02 := s1.trans s2
  obtain ⟨ta, txs, rfl, hta, htp⟩ := prs_same s02 tc
  have tl := cn.len
  refine ⟨_, rfl, p, _, dx, _, _, rfl, s02 _ _ h1, T.c_Summary, T.n_Summary_counts, lk_cc, ta, txs, t, rfl, .inl hta, htp, by omega, fun d H3 s3 _ h3 => ?_⟩
  rw [tab_id (asc_nd cn.asc)] at h3
  have s03 := s02.trans s3
  refine ⟨_, rfl, p, _, dx, _, _, rfl, s03 _ _ h1, T.c_Summary, T.n_Summary_capacity, lk_c0, _, rfl, _, rfl, k, d, t, _, rs, rfl, h3, cn.tk, hk, by omega, prs_same s03 hov, od.ge, fun e1 p1 H4 s4 g1 g2 => ⟨p1, _, rfl, .inl (.inl g2), rfl, _, _, rfl, _, _, rfl, rfl, ?_⟩⟩
  have s04 := s03.trans s4
  have ov4 := prs_same s04 hov
  refine ⟨_, rfl, p, _, dx, _, _, rfl, s04 _ _ h1, T.c_Summary, T.n_Summary_capacity, lk_c0, _, rfl, _, rfl, _, rfl, i, rfl, sl_upto (C := 0) stb_pr ov4 (i := i) fun u5 H5 s5 hu5 => ⟨_, rfl, by show 2 ≤ sizeLine; decide, fun q6 hq6 => ?_⟩⟩
  have s6 : Same H5 (upd H5 q6 (.tup [.str x, .int 1])) := sm_new hq6
  refine one_d (C := 0) stb_pr (a := (x, (1 : Int))) (show PrV K _ (.ref q6) (x, 1) from ⟨q6, rfl, .inl (.inl upd_same)⟩) fun q7 H7 s7 hq7 => cat_d (C := 0) stb_pr (prs_same (s6.trans s7) hu5) hq7 (by show (rs.take i).length + 1 ≤ 1000; rw [List.length_take]; omega) fun v8 H8 s8 hv8 => ?_
  have s08 : Same H4 H8 := s5.trans (s6.trans (s7.trans s8))
  refine ⟨_, rfl, _, rfl, i, rfl, ?_⟩
  dsimp only [tNoPart]
  refine sl_from (C := 0) stb_pr (prs_same s08 ov4) (i := i) fun u9 H9 s9 hu9 => cat_d (C := 0) stb_pr (prs_same s9 hv8) hu9 (by rw [List.length_append, List.length_take, List.length_drop]; show _ + 1 + _ ≤ _; omega) fun v10 H10 s10 hv10 => ?_
  have s410 : Same H4 H10 := s08.trans (s9.trans s10)
  have mge : ∀ r ∈ mid rs i x, 1 ≤ r.2 := fun r hr => by
    rcases List.mem_append.mp hr with z | z
    · rcases List.mem_append.mp z with y | y
      · exact od.ge r (List.mem_of_mem_take y)
      · rw [List.mem_singleton.mp y]
        exact Int.le_refl _
    · exact od.ge r (List.mem_of_mem_drop z)
  refine ⟨k, d, t, v10, mid rs i x, rfl, s410 _ _ (s4 _ _ h3), cn.tk, hk, by omega, hv10, mge, fun e2 p2 H11 s11 g3 g4 => ⟨p2, _, rfl, .inl (.inl g4), rfl, _, _, rfl, _, _, rfl, rfl, ?_⟩⟩
  have s011 : Same H H11 := s04.trans (s410.trans s11)
  have g1' := s11 _ _ (s410 _ _ g1)
  refine ⟨_, rfl, _, rfl, _, _, rfl, rfl, _, rfl, ?_⟩
  rcases fin with ⟨lt, fin⟩ | ⟨nlt, e, r, he, fin⟩
  · rw [decide_eq_true lt]
    exact iteT ⟨by show 1 ≤ sizeLine; decide, fun q hq => fin _ _ (s011.trans (sm_new hq)) ⟨q, rfl, .inl (.inl upd_same)⟩⟩
  · rw [decide_eq_false nlt]
    have tkA := play_tk hk mge cn.tk
    have tlA := tkA.len
    refine iteF ⟨e2, _, g3, trivial, fun od2 => ⟨_, rfl, e2, od2, rfl, .inl ⟨_, upd_same, fun D hD => ?_⟩⟩⟩
    have hdD : D ≠ e2 := fun z => by rw [z, upd_same] at hD; cases hD
    have ne12 : ∀ Hx, Same (upd H11 e2 (.frz od2 (.dK (kd (play k t (mid rs i x)).1)))) Hx → Rd Hx e1 (.dK (kd (play k t rs).1)) := fun Hx sx => by
      by_cases z : e1 = e2
      · subst z
        rw [g1'] at g3
        have := HO.dK.inj (Option.some.inj g3)
        exact .inr ⟨od2, by rw [this]; exact sx _ _ upd_same⟩
      · exact .inl (sx _ _ (by rw [upd_ne z]; exact g1'))
    refine lc_R (C := 0) walk_keys (play k t (mid rs i x)).1 (fun q => decide (val (play k t rs).1 q.1 < q.2)) (·.1) StrV stb_str (kd_len _).symm (by rw [kd_len]; omega) hD (fun H' s => s _ _ upd_same) (fun j q v H12 H13 F1 F0 hj s y f1 f0 => ?_) fun ys H12 s12 hy q => ?_
    · obtain ⟨rfl, k', v', ek, rfl⟩ := y
      obtain ⟨rfl, rfl⟩ := kd_at hj ek
      refine ⟨rfl, _, rfl, _, rfl, e2, _, rfl, dg (.inr ⟨od2, s _ _ upd_same⟩) (lk_mem tkA.nd (List.mem_of_getElem? hj)), _, rfl, e1, rfl, .inl ⟨_, ne12 _ s⟩, _, rfl, _, dgo (ne12 _ s), _, _, rfl, getD_val _ _, _, rfl, ?_⟩
      cases c : decide (val (play k t rs).1 q.1 < q.2) with
      | false => exact iteF (f0 c _ (Same.refl _))
      | true => exact iteT ⟨_, rfl, f1 c _ _ (Same.refl _) rfl⟩
    · have s13 := sm_lock g3 s12
      have ey : ys = ((hgh (play k t (mid rs i x)).1 (play k t rs).1).map (·.1)).map V.str := pd_eq (h := V.str) q
      rw [he] at ey
      refine ⟨s12 _ _ upd_same, D, ys, 0, .str e.1, rfl, rfl, SqL.of (by rw [upd_ne hdD]; exact hy), atI_nat (j := 0) (by rw [ey]; rfl), by show 2 ≤ sizeLine; decide, fun q2 hq2 => ?_⟩
      exact fin _ _ (s011.trans (s13.trans (sm_new hq2))) ⟨q2, rfl, .inl (.inl upd_same)⟩
end
end Kx
set_option Elab.async false
set_option linter.all false
set_option maxRecDepth 100000
set_option maxHeartbeats 4000000
namespace Kx
open PySem PySem.Spec PyProof.Rows L2
section
variable {P : Program} {w : World} {K : PySem.W.Frag} {mg : Str → Option Value} {base : Heap}
def spCellL : Sp := fun vs H Q _ => ∃ (a : Addr) (ns : List Int) (k : Nat), vs = [.ref a, .int k] ∧ SqL K H a (ns.map V.int) ∧ k ≤ 100 ∧ ∀ i H', Same H H' → Q (.int i) H'
theorem ok_lcell (T : Tx w K mg) : Fn1 P w K mg base 1 "_law_cell" ["_law_script", "_law_k"] [] (spCellL (K := K)) := by
  refine T.E__law_cell (fun vs H Q E h => ?_) (fun cdv A outer s H vs Q E hr h => ?_)
  · obtain ⟨_, _, _, rfl, _⟩ := h
    rfl
  obtain ⟨a, ns, k, rfl, ha, hk, fin⟩ := h
  refine ⟨_, pss_cons (ps_if (pt_cmpR op_lt (pv 1) (pe_callB call_len_seq rfl T.b_len bt_len (pa_cons (pv 0) pa_nil)) (nomark _)) (pss_one (ps_ret (pe_ix ix_list (pv 0) (pv 1) (fun _ _ => rfl)))) pss_nil)
    (pss_cons (ps_set (i := 2) sc__law_cell.nd rfl (Or.inl rfl) (pe_op op_mod (pe_op op_mul pe_int (pe_op op_add (pe_op op_add (pe_op op_mul (pv 1) (pv 1)) (pe_op op_mul pe_int (pv 1))) pe_int)) pe_int))
    (pss_cons (ps_for PassesOwn.never rfl (pi_list (pe_slice sl_list (pv 0) po_none (po_some pe_int))) (pg_name (i := 3) sc__law_cell.nd rfl (Or.inl rfl)) (pss_one (ps_set (i := 2) sc__law_cell.nd rfl (Or.inl rfl) (pe_op op_mod (pe_op op_add (pe_op op_mul (pv 2) pe_int) (pv 3)) pe_int))))
    (pss_one (ps_ret (pv 2))))), ?_⟩
  refine ⟨_, rfl, _, rfl, a, _, rfl, .inl ha, _, _, rfl, rfl, _, rfl, ?_⟩
  rw [List.length_map]
  by_cases c : k < ns.length
  · rw [decide_eq_true (show (k : Int) < (ns.length : Nat) by omega)]
    refine iteT ⟨_, rfl, _, rfl, a, _, (k : Int), .int ns[k], rfl, rfl, ha, atI_nat (j := k) (by simp [c]), fin _ _ (Same.refl _)⟩
  · rw [decide_eq_false (show ¬ (k : Int) < (ns.length : Nat) by omega)]
    refine iteF ⟨_, rfl, _, rfl, _, _, rfl, rfl, .inl (by omega), _, rfl, _, _, rfl, rfl, .inl (by omega), _, _, rfl, rfl, _, _, rfl, rfl, _, _, rfl, rfl, .inl (by omega), _, _, rfl, rfl, (show (0 : Int) < 1000000007 by decide), ?_⟩
    refine ⟨_, rfl, 3, rfl, a, _, rfl, ha, fun q hq => ?_⟩
    have s1 : Same H (upd H q (.lst (cutV (ns.map V.int) none (some 3)))) := sm_new hq
    refine ⟨q, rfl, ⟨_, SqL.of upd_same⟩, ?_⟩
    refine for_it (walk_list (xs := cutV (ns.map V.int) none (some 3))) (fun i σ H' => Same (upd H q (.lst (cutV (ns.map V.int) none (some 3)))) H' ∧ ∃ (z : Int) (x : Option V), σ = [some (.ref a), some (.int k), some (.int z), x] ∧ 0 ≤ z ∧ z < 1000000007) ⟨Same.refl _, _, none, rfl, Int.emod_nonneg _ (by decide), Int.emod_lt_of_pos _ (by decide)⟩ (fun i σ H' _ p => SqL.of (p.1 _ _ upd_same)) (fun i x σ H1 H2 hi p y => ?_) fun σ H1 p => ?_
    · obtain ⟨s2, z, x0, rfl, z0, z1⟩ := p
      obtain ⟨rfl, ex⟩ := y
      obtain ⟨n, rfl⟩ : ∃ n, x = V.int n := by
        have m := List.mem_of_getElem? ex
        have m2 : x ∈ ns.map V.int := List.mem_of_mem_drop (List.mem_of_mem_take m)
        obtain ⟨n, _, e⟩ := List.mem_map.mp m2
        exact ⟨n, e.symm⟩
      exact ⟨_, rfl, _, _, rfl, rfl, .inl (by omega), _, rfl, _, _, rfl, rfl, _, _, rfl, rfl, (show (0 : Int) < 1000000007 by decide), s2, _, _, rfl, Int.emod_nonneg _ (by decide), Int.emod_lt_of_pos _ (by decide)⟩
    · obtain ⟨s2, z, x0, rfl, _⟩ := p
      exact ⟨_, rfl, fin _ _ (s1.trans s2)⟩
/-- a pool of draws -/
def PoolAt (H : Hp) (p : Addr) : Prop := ∃ s d n : Int, H p = some (.lst [.int s, .int d, .int n]) ∧ 0 ≤ s ∧ s < 1000000007 ∧ 0 ≤ d
theorem pool_same {H H' : Hp} {p : Addr} (s : Same H H') : PoolAt H p → PoolAt H' p := fun ⟨a, b, c, h, r⟩ => ⟨a, b, c, s _ _ h, r⟩
theorem pool_sv {C : Addr} {H H' : Hp} {p : Addr} (h : PoolAt H p) (s : But p H H') : Sv C H H' := by
  obtain ⟨a, b, c, h, _⟩ := h
  exact bt_sv s h trivial
def spPool : Sp := fun vs H Q _ => ∃ i : Int, vs = [.int i] ∧ ∀ p H', Same H H' → H p = none → PoolAt H' p → Q (.ref p) H'
theorem ok_lpool (T : Tx w K mg) : Fn1 P w K mg base 1 "_law_pool" ["_law_cell_here"] [] spPool := by
  refine T.E__law_pool (fun vs H Q E h => ?_) (fun cdv A outer s H vs Q E hr h => ?_)
  · obtain ⟨_, rfl, _⟩ := h
    rfl
  obtain ⟨i, rfl, fin⟩ := h
  refine ⟨_, pss_cons (ps_set (i := 1) sc__law_pool.nd rfl (Or.inl rfl) pe_int)
    (pss_cons (ps_if (pw_or (pt_cmpR op_lt (pv 0) pe_int (nomark _)) (pw_or1 (pt_cmpR op_ge (pv 0) (pe_op op_pow pe_int pe_int) (nomark _)))).pt (pss_one (ps_set (i := 1) sc__law_pool.nd rfl (Or.inl rfl) (pe_callB call_abs rfl T.b_abs bt_abs (pa_cons (pv 0) pa_nil)))) pss_nil)
    (pss_one (ps_ret (pe_lst (pa_cons (pe_op op_mod (pv 0) pe_int) (pa_cons (pv 1) (pa_cons pe_int pa_nil))))))), ?_⟩
  have m0 : 0 ≤ i % 1000000007 := Int.emod_nonneg _ (by decide)
  have m1 : i % 1000000007 < 1000000007 := Int.emod_lt_of_pos _ (by decide)
  have last : ∀ d : Int, 0 ≤ d → ([V.int (i % 1000000007), .int d, .int 0] : List V).length ≤ sizeLine ∧ ∀ p, H p = none → Q (.ref p) (upd H p (.lst [.int (i % 1000000007), .int d, .int 0])) := fun d hd => ⟨by show 3 ≤ sizeLine; decide, fun p hp => fin p _ (sm_new hp) hp ⟨_, _, _, upd_same, m0, m1, hd⟩⟩
  refine ⟨_, rfl, i, 0, rfl, rfl, _, rfl, ?_⟩
  by_cases c : i < 0
  · rw [decide_eq_true c]
    exact iteT (iteT ⟨_, rfl, i, rfl, _, rfl, _, _, rfl, rfl, (show (0 : Int) < 1000000007 by decide), _, rfl, last _ (by split <;> omega)⟩)
  · rw [decide_eq_false c]
    refine iteF ⟨_, rfl, 10, 18, rfl, rfl, ⟨by decide, by decide, by decide⟩, _, _, rfl, rfl, _, rfl, ?_⟩
    by_cases d : (10 : Int) ^ (18 : Int).toNat ≤ i
    · rw [decide_eq_true d]
      exact iteT ⟨_, rfl, i, rfl, _, rfl, _, _, rfl, rfl, (show (0 : Int) < 1000000007 by decide), _, rfl, last _ (by split <;> omega)⟩
    · rw [decide_eq_false d]
      exact iteF ⟨_, rfl, _, _, rfl, rfl, (show (0 : Int) < 1000000007 by decide), _, rfl, last 0 (Int.le_refl _)⟩
/-- a draw from 0, 1, .. below m -/
def spDraw : Sp := fun vs H Q _ => ∃ (p : Addr) (m : Int), vs = [.ref p, .int m] ∧ PoolAt H p ∧ 1 ≤ m ∧ m ≤ 10 ^ 30 ∧ ∀ r H', But p H H' → PoolAt H' p → 0 ≤ r → r < m → Q (.int r) H'
theorem ok_ldraw (T : Tx w K mg) : Fn1 P w K mg base 1 "_law_draw" ["_law_pool_here", "_law_many"] [] spDraw := by
  refine T.E__law_draw (fun vs H Q E h => ?_) (fun cdv A outer s H vs Q E hr h => ?_)
  · obtain ⟨_, _, rfl, _⟩ := h
    rfl
  obtain ⟨p, m, rfl, ⟨a, d, n, h1, a0, a1, d0⟩, m1, m2, fin⟩ := h
  refine ⟨_, pss_cons (ps_asg (pe_op op_add (pe_ix ix_list (pv 0) pe_int (fun _ _ => rfl)) pe_int) (pg_sub (pv 0) pe_int set_list))
    (pss_cons (ps_set (i := 2) sc__law_draw.nd rfl (Or.inl rfl) (pe_ix ix_list (pv 0) pe_int (fun _ _ => rfl)))
    (pss_cons (ps_asg (pe_op op_mod (pe_callTy call_int1 rfl T.b_int bt_int (pa_cons (pe_op op_add (pe_op op_add (pe_op op_mul (pv 2) (pe_op op_add (pe_op op_mod (pe_callTy call_int1 rfl T.b_int bt_int (pa_cons (pv 2) pa_nil)) pe_int) pe_int)) (pe_op op_mul pe_int (pe_ix ix_list (pv 0) pe_int (fun _ _ => rfl)))) pe_int) pa_nil)) pe_int) (pg_sub (pv 0) pe_int set_list))
    (pss_cons (ps_if (pt_cmpR op_gt (pe_ix ix_list (pv 0) pe_int (fun _ _ => rfl)) pe_int (nomark _)) (pss_cons (ps_asg (pe_callB call_divmodW rfl T.b_divmod bt_divmod (pa_cons (pe_ix ix_list (pv 0) pe_int (fun _ _ => rfl)) (pa_cons (pv 1) pa_nil))) (pg_tup rfl (pgs_cons (pg_sub (pv 0) pe_int set_list) (pgs_cons (pg_name (i := 3) sc__law_draw.nd rfl (Or.inl rfl)) pgs_nil))))
      (pss_one (ps_ret (pv 3)))) pss_nil)
    (pss_one (ps_ret (pe_op op_mod (pe_op op_fdiv (pe_ix ix_list (pv 0) pe_int (fun _ _ => rfl)) pe_int) (pv 1))))))), ?_⟩
  have pyl : Builtin.divisionGoesByPylong d m = false := PyProof.noPylong_of_log2 (by
    have : m.natAbs < 2 ^ 100 := by omega
    have := small_of (i := m) (b := 100) (by omega) (by omega) (by decide)
    unfold Small at this
    omega)
  refine ⟨_, rfl, p, _, 2, .int n, rfl, rfl, SqL.of h1, atI_nat (j := 2) rfl, _, _, rfl, rfl, _, rfl, p, _, 2, 2, rfl, rfl, h1, rfl, ?_⟩
  generalize e1 : upd H p (.lst (([V.int a, .int d, .int n] : List V).set 2 (.int (n + 1)))) = H1
  have b1 : But p H H1 := e1 ▸ bt_upd
  have g1 : H1 p = some (.lst [.int a, .int d, .int (n + 1)]) := e1 ▸ upd_same
  refine ⟨_, rfl, p, _, 0, .int a, rfl, rfl, SqL.of g1, atI_nat (j := 0) rfl, ?_⟩
  refine ⟨_, rfl, _, rfl, .inl ⟨_, rfl, _, _, rfl, rfl, (show (0 : Int) < 46007 by decide), _, _, rfl, rfl, _, _, rfl, rfl, .inl (by omega), _, rfl, p, _, 2, .int (n + 1), rfl, rfl, SqL.of g1, atI_nat (j := 2) rfl, _, _, rfl, rfl, .inl (by omega), _, _, rfl, rfl, _, _, rfl, rfl, .inl ⟨_, rfl, _, _, rfl, rfl, (show (0 : Int) < 1000000007 by decide), _, rfl, p, _, 0, 0, rfl, rfl, g1, rfl, ?_⟩⟩⟩
  dsimp only
  generalize e2 : (a * (a % 46007 + 20011) + 60013 * (n + 1) + 5) % 1000000007 = z
  have z0 : 0 ≤ z := e2 ▸ Int.emod_nonneg _ (by decide)
  have z1 : z < 1000000007 := e2 ▸ Int.emod_lt_of_pos _ (by decide)
  generalize e3 : upd H1 p (.lst (([V.int a, .int d, .int (n + 1)] : List V).set 0 (.int z))) = H2
  have b2 : But p H H2 := b1.tr (e3 ▸ bt_upd)
  have g2 : H2 p = some (.lst [.int z, .int d, .int (n + 1)]) := e3 ▸ upd_same
  refine ⟨_, rfl, p, _, 1, .int d, rfl, rfl, SqL.of g2, atI_nat (j := 1) rfl, _, _, rfl, rfl, _, rfl, ?_⟩
  by_cases c : 0 < d
  · rw [decide_eq_true c]
    refine iteT ⟨_, rfl, p, _, 1, .int d, rfl, rfl, SqL.of g2, atI_nat (j := 1) rfl, _, rfl, d, m, rfl, ⟨by omega, pyl⟩, fun t ht => ?_⟩
    have s3 : Same H2 (upd H2 t (.tup [.int (d / m), .int (d % m)])) := sm_new ht
    refine ⟨t, _, rfl, .inl (.inl upd_same), rfl, _, _, rfl, _, rfl, p, _, 1, 1, rfl, rfl, s3 _ _ g2, rfl, _, _, rfl, rfl, _, rfl, ?_⟩
    refine fin _ _ (b2.tr ((sm_bt s3).tr bt_upd)) ⟨z, d / m, n + 1, upd_same, z0, z1, Int.ediv_nonneg d0 (by omega)⟩ (Int.emod_nonneg _ (by omega)) (Int.emod_lt_of_pos _ (by omega))
  · rw [decide_eq_false c]
    refine iteF ⟨_, rfl, p, _, 0, .int z, rfl, rfl, SqL.of g2, atI_nat (j := 0) rfl, _, _, rfl, rfl, ⟨by decide, by decide⟩, _, rfl, _, _, rfl, rfl, by show 0 < m; omega, ?_⟩
    exact fin _ _ b2 ⟨z, d, n + 1, g2, z0, z1, d0⟩ (Int.emod_nonneg _ (by omega)) (Int.emod_lt_of_pos _ (by omega))
def spOften : Sp := fun vs H Q _ => ∃ p : Addr, vs = [.ref p] ∧ PoolAt H p ∧ ∀ r H', But p H H' → PoolAt H' p → 1 ≤ r → r ≤ 10 ^ 30 → Q (.int r) H'
theorem ok_loften (T : Tx w K mg) : Fn1 P w K mg base 2 "_law_often" ["_law_pool_here"] [] spOften := by
  refine T.E__law_often (fun vs H Q E h => ?_) (fun cdv A outer s H vs Q E hr h => ?_)
  · obtain ⟨_, rfl, _⟩ := h
    rfl
  obtain ⟨p, rfl, hp, fin⟩ := h
  refine ⟨_, pss_cons (ps_set (i := 1) sc__law_often.nd rfl (Or.inl rfl) (pe_f (ok_ldraw T) hr (pa_cons (pv 0) (pa_cons pe_int pa_nil))))
    (pss_one (ps_ret (pe_ix ix_list (pe_lst (pa_cons pe_int (pa_cons pe_int (pa_cons pe_int (pa_cons (pe_op op_add pe_int (pe_f (ok_ldraw T) hr (pa_cons (pv 0) (pa_cons pe_int pa_nil)))) (pa_cons (pe_op op_add pe_int (pe_f (ok_ldraw T) hr (pa_cons (pv 0) (pa_cons (pe_op op_pow pe_int pe_int) pa_nil)))) (pa_cons (pe_op op_pow pe_int pe_int) pa_nil))))))) (pv 1) (fun _ _ => rfl)))), ?_⟩
  refine ⟨_, rfl, p, 6, rfl, hp, by decide, by decide, fun r H1 b1 p1 r0 r1 => ?_⟩
  refine ⟨_, rfl, p, 30, rfl, p1, by decide, by decide, fun x H2 b2 p2 x0 x1 => ⟨_, _, rfl, rfl, _, rfl, 10, 30, rfl, rfl, ⟨by decide, by decide, by decide⟩, p, _, rfl, p2, by decide, by decide, fun y H3 b3 p3 y0 y1 => ⟨_, _, rfl, rfl, 10, 30, rfl, rfl, ⟨by decide, by decide, by decide⟩, by show 6 ≤ sizeLine; decide, fun q hq => ⟨_, rfl, q, [V.int 1, .int 2, .int 3, .int (1 + x), .int (1 + y), .int (10 ^ (30 : Int).toNat)], r, ?_⟩⟩⟩⟩
  have b := (b1.tr (b2.tr b3)).tr (sm_bt (sm_new (o := .lst [V.int 1, .int 2, .int 3, .int (1 + x), .int (1 + y), .int (10 ^ (30 : Int).toNat)]) hq))
  have p4 := pool_same (sm_new (o := .lst [V.int 1, .int 2, .int 3, .int (1 + x), .int (1 + y), .int (10 ^ (30 : Int).toNat)]) hq) p3
  have e30 : (10 : Int) ^ (30 : Int).toNat = 10 ^ 30 := rfl
  rw [e30] at y1
  have hr' : r = 0 ∨ r = 1 ∨ r = 2 ∨ r = 3 ∨ r = 4 ∨ r = 5 := by omega
  rcases hr' with rfl | rfl | rfl | rfl | rfl | rfl
  · exact ⟨.int 1, rfl, rfl, SqL.of upd_same, rfl, fin _ _ b p4 (by decide) (by decide)⟩
  · exact ⟨.int 2, rfl, rfl, SqL.of upd_same, rfl, fin _ _ b p4 (by decide) (by decide)⟩
  · exact ⟨.int 3, rfl, rfl, SqL.of upd_same, rfl, fin _ _ b p4 (by decide) (by decide)⟩
  · exact ⟨.int (1 + x), rfl, rfl, SqL.of upd_same, rfl, fin _ _ b p4 (by omega) (by omega)⟩
  · exact ⟨.int (1 + y), rfl, rfl, SqL.of upd_same, rfl, fin _ _ b p4 (by omega) (by omega)⟩
  · exact ⟨.int (10 ^ (30 : Int).toNat), rfl, rfl, SqL.of upd_same, rfl, fin _ _ b p4 (by decide) (by decide)⟩
end
end Kx
set_option Elab.async false
set_option linter.all false
set_option maxRecDepth 100000
set_option maxHeartbeats 4000000
namespace Kx
open PySem PySem.Spec PyProof.Rows L2
/-! ### the law's tables -/
theorem low_snoc {l : Tab} {p : Str × Int} {s : Int} : low (l ++ [p]) s = if s < p.2 then low l s ++ [(p.1, p.2 - s)] else low l s := by
  unfold low
  rw [List.filter_append, List.map_append]
  by_cases h : s < p.2
  · rw [if_pos h]
    simp [h]
  · rw [if_neg h]
    simp [h]
theorem put_low {l : Tab} {p : Str × Int} {s : Int} (nd : (nms (l ++ [p])).Nodup) : put (low l s) p.1 (p.2 - s) = low l s ++ [(p.1, p.2 - s)] := put_fresh fun m => by
  have m2 := nms_low.subset m
  rw [nms, List.map_append, List.nodup_append] at nd
  exact nd.2.2 _ m2 _ (by simp) rfl
/-- xs != [] -/
theorem op_neNilL {X : Cx} (hu : X.A.units < cLine) : OpR X (compareOp .NotEq) (fun x y H Q => ∃ a b xs, x = .ref a ∧ y = .ref b ∧ SqL X.K H a xs ∧ SqL X.K H b [] ∧ Q (.bl (!xs.isEmpty)) H) := by
  intro pins s σ H x y v u Q I rx ry h
  obtain ⟨a, b, xs, rfl, rfl, ha, hb, q⟩ := h
  cases rx
  cases ry
  obtain ⟨its, r, e, z⟩ := I.list ha
  obtain ⟨its2, r2, e2, z2⟩ := I.list hb
  have hl := r.length
  cases r2
  show wpAny (model X.prog X.w) X.A (richCompare .NotEq (.ref a) (.ref b)) (EP X pins σ Q) X.xe s
  cases xs with
  | nil =>
    cases r
    exact SeqAt.RcNeAt.lists (e := fun _ => true) e.isList e2.isList rfl hu (fun j h1 _ => absurd h1 (Nat.not_lt_zero _)) _ _ _ _ ⟨.bl false, H, I, rfl, q⟩
  | cons x xs =>
    refine SeqAt.RcNeAt.lists_lengths e.isList e2.isList ?_ hu _ _ _ _ ⟨.bl true, H, I, rfl, q⟩
    rw [List.size_toArray, ← hl]
    simp
section
variable {P : Program} {w : World} {K : PySem.W.Frag} {mg : Str → Option Value} {base : Heap}
theorem ok_lrun (T : Tx w K mg) : Fn1 P w K mg base 2 "_law_run" ["_law_width", "_law_held_here", "_law_word", "_law_often_here"] [] spArrived := by
  refine T.E__law_run (fun vs H Q E h => ?_) (fun cdv A outer s H vs Q E hr h => ?_)
  · obtain ⟨_, _, _, _, _, rfl, _⟩ := h
    rfl
  obtain ⟨k, d, t, x, n, rfl, hd, tb, hk, hn, fin⟩ := h
  have hu := hu_of hr
  refine ⟨_, pss_cons (ps_set (i := 4) sc__law_run.nd rfl (Or.inl rfl) pe_int)
    (pss_cons (ps_while PassesOwn.never (pw_and (pt_cmpR op_gt (pv 3) pe_int (nomark _)) (pw_and (pt_cmp (pc_dnotin hu (pv 2) (pv 1))) (pw_and1 (pt_cmpR op_eq (pe_callB call_lenD (by rfl) T.b_len bt_len (pa_cons (pv 1) pa_nil)) (pv 0) (nomark _))))).pt
      (pss_cons (ps_set (i := 5) sc__law_run.nd rfl (Or.inl rfl) (pe_callB (call_min2 rfl) rfl T.b_min bt_min (pa_cons (pv 3) (pa_cons (pe_callB (cr_min rfl) rfl T.b_min bt_min (pa_cons (pe_lock (pe_lc (own := [("_law_each", 6)]) (g := gName 6) (tt := tYes) rfl sc__law_run.nd (pi_keys (pv 1)) (blkOk_by (N := n__law_run) (sc := defScope s__law_run) (by decide +kernel))
        (fun _ _ _ _ _ => pg_name (i := 6) sc__law_run.nd rfl (Or.inl rfl)) (fun _ _ _ _ _ => pts_nil) (fun _ _ _ _ _ => pe_dget hu (pv 1) (pv 6) (fun _ _ => rfl)))) pa_nil)) pa_nil))))
      (pss_cons (ps_set (i := 7) sc__law_run.nd rfl (Or.inl rfl) pe_dnewK)
      (pss_cons (ps_lock (ps_for PassesOwn.never rfl (pi_keys (pv 1)) (pg_name (i := 6) sc__law_run.nd rfl (Or.inl rfl)) (pss_one (ps_if (pt_cmpR op_gt (pe_dget hu (pv 1) (pv 6) (fun _ _ => rfl)) (pv 5) (nomark _)) (pss_one (ps_asg (pe_op op_sub (pe_dget hu (pv 1) (pv 6) (fun _ _ => rfl)) (pv 5)) (pg_sub (pv 7) (pv 6) (set_dict hu)))) pss_nil))))
      (pss_cons (ps_asg (pe_tup (pa_cons (pv 7) (pa_cons (pe_op op_add (pv 4) (pv 5)) pa_nil))) (pg_tup rfl (pgs_cons (pg_name (i := 1) sc__law_run.nd rfl (Or.inr rfl)) (pgs_cons (pg_name (i := 4) sc__law_run.nd rfl (Or.inl rfl)) pgs_nil))))
      (pss_one (ps_set (i := 3) sc__law_run.nd rfl (Or.inl rfl) (pe_op op_sub (pv 3) (pv 5)))))))))
    (pss_cons (ps_set (i := 7) sc__law_run.nd rfl (Or.inl rfl) (pe_callTy call_dictD rfl T.b_dict bt_dict (pa_cons (pv 1) pa_nil)))
    (pss_cons (ps_if (pt_cmpR op_gt (pv 3) pe_int (nomark _)) (pss_one (ps_asg (pe_op op_add (pe_dget2 hu (pv 1) (pv 2) pe_int ⟨rfl, rfl, rfl, rfl⟩) (pv 3)) (pg_sub (pv 7) (pv 2) (set_dict hu)))) pss_nil)
    (pss_one (ps_ret (pe_tup (pa_cons (pv 7) (pa_cons (pv 4) pa_nil)))))))), ?_⟩
  refine ⟨fun m σ H' => ∃ d1 t1 n1 l1 a b c, σ = [some (.int k), some (.ref d1), some (.str x), some (.int n1), some (.int l1), a, b, c] ∧ Same H H' ∧ H' d1 = some (.dK (kd t1)) ∧ Tb t1 ∧ 0 ≤ n1 ∧ m = n1.toNat ∧ (arr k t1 x n1).1 = (arr k t x n).1 ∧ l1 + (arr k t1 x n1).2 = (arr k t x n).2, ⟨n.toNat, d, t, n, 0, none, none, none, rfl, Same.refl _, hd, tb, by omega, rfl, rfl, by omega⟩, ?_⟩
  rintro m σ H1 ⟨d1, t1, n1, l1, a, b, cc, rfl, s1, h1, tb1, hn1, rfl, r1, r2⟩
  refine wcond rfl rfl rfl rfl h1 ?_
  by_cases c : 0 < n1 ∧ x ∉ nms t1 ∧ t1.length = k
  · rw [decide_eq_true c]
    refine iteT ⟨fun σ' H' => ∃ m', m' < n1.toNat ∧ ∃ d1 t1 n1 l1 a b c, σ' = [some (.int k), some (.ref d1), some (.str x), some (.int n1), some (.int l1), a, b, c] ∧ Same H H' ∧ H' d1 = some (.dK (kd t1)) ∧ Tb t1 ∧ 0 ≤ n1 ∧ m' = n1.toNat ∧ (arr k t1 x n1).1 = (arr k t x n).1 ∧ l1 + (arr k t1 x n1).2 = (arr k t x n).2, fun σ' H' q => q, ?_⟩
    have ne : t1 ≠ [] := fun e => by
      have := c.2.2
      rw [e] at this
      simp at this
      omega
    refine ⟨_, rfl, d1, _, h1, trivial, fun od => ⟨_, rfl, d1, od, rfl, .inl ⟨_, upd_same, fun D hD => ?_⟩⟩⟩
    have hdD : D ≠ d1 := fun e => by rw [e, upd_same] at hD; cases hD
    have hDn : H1 D = none := by rw [← hD, upd_ne hdD]
    refine lc_M (C := 0) walk_keys t1 (fun p => p.2) IntV stb_int (kd_len t1).symm (by rw [kd_len]; exact Nat.le_trans tb1.len (by decide)) hD (fun H' s => s _ _ upd_same) (fun i p v H2 H3 F1 hi s y f1 => ?_) fun ys H2 s hy q => ?_
    · obtain ⟨rfl, k', v', ek, rfl⟩ := y
      obtain ⟨rfl, rfl⟩ := kd_at hi ek
      exact ⟨rfl, _, rfl, _, rfl, d1, _, rfl, dg (.inr ⟨od, s _ _ upd_same⟩) (lk_mem tb1.nd (List.mem_of_getElem? hi)), f1 _ _ (Same.refl _) rfl⟩
    · have s2 : Same H1 (upd H2 d1 (.dK (kd t1))) := sm_lock h1 s
      have ey : ys = (t1.map (·.2)).map V.int := pd_eq (h := V.int) q
      refine ⟨s _ _ upd_same, D, t1.map (·.2), rfl, SqL.of (by rw [upd_ne hdD, hy, ey]), by simpa [List.length_pos_iff] using ne, fun y hy1 hy2 => ⟨n1, y, rfl, ?_⟩⟩
      have em := mn_eq ne hy1 hy2
      have e1 : (if y < n1 then y else n1) = min n1 (mn t1) := by
        rw [em]
        split <;> omega
      rw [e1]
      have mp : 1 ≤ mn t1 := by
        obtain ⟨p, p1, p2⟩ := mn_mem ne
        have := tb1.ge p p1
        omega
      generalize eS : min n1 (mn t1) = S
      intro D2 hD2
      have s3 : Same (upd H2 d1 (.dK (kd t1))) (upd (upd H2 d1 (.dK (kd t1))) D2 (.dK [])) := sm_new hD2
      have h1c : (upd (upd H2 d1 (.dK (kd t1))) D2 (.dK [])) d1 = some (.dK (kd t1)) := s3 _ _ (s2 _ _ h1)
      have hd2 : D2 ≠ d1 := fun e => by rw [e, upd_same] at hD2; cases hD2
      have hD2n : H1 D2 = none := s2.free hD2
      refine ⟨d1, _, h1c, trivial, fun od2 => ⟨_, rfl, d1, od2, rfl, .inl ⟨_, upd_same, ?_⟩⟩⟩
      generalize eHl : upd (upd (upd H2 d1 (.dK (kd t1))) D2 (.dK [])) d1 (.frz od2 (.dK (kd t1))) = Hl
      have hl1 : Hl d1 = some (.frz od2 (.dK (kd t1))) := eHl ▸ upd_same
      have hl2 : Hl D2 = some (.dK []) := by rw [← eHl, upd_ne hd2, upd_same]
      refine for_it walk_keys (fun i σ H' => (∃ bb, σ = [some (.int k), some (.ref d1), some (.str x), some (.int n1), some (.int l1), some (.int S), bb, some (.ref D2)]) ∧ But D2 Hl H' ∧ H' D2 = some (.dK (kd (low (t1.take i) S)))) ⟨⟨_, rfl⟩, But.refl, hl2⟩ (fun i σ H' _ p => p.2.1 _ _ hl1 hd2.symm) (fun i y σ H3 H4 hi p yy => ?_) fun σ H3 p => ?_
      · obtain ⟨⟨bb, rfl⟩, b3, g3⟩ := p
        obtain ⟨rfl, k', v', ek, rfl⟩ := yy
        rw [kd_len] at hi
        have ep : t1[i]? = some t1[i] := List.getElem?_eq_getElem hi
        obtain ⟨rfl, rfl⟩ := kd_at ep ek
        have fz := b3 _ _ hl1 hd2.symm
        have hx := lk_mem tb1.nd (List.mem_of_getElem? ep)
        have et : t1.take (i + 1) = t1.take i ++ [t1[i]] := by
          rw [List.take_succ, ep]
          rfl
        have ndt : (nms (t1.take i ++ [t1[i]])).Nodup := by
          rw [← et]
          exact (((List.take_sublist (i + 1) t1).map (·.1)).nodup tb1.nd)
        refine ⟨_, rfl, _, rfl, d1, _, rfl, dg (.inr ⟨od2, fz⟩) hx, _, rfl, _, _, rfl, rfl, _, rfl, ?_⟩
        by_cases g : S < t1[i].2
        · rw [decide_eq_true g]
          refine iteT ⟨_, rfl, _, rfl, d1, _, rfl, dg (.inr ⟨od2, fz⟩) hx, _, rfl, _, _, rfl, rfl, _, rfl, _, rfl, D2, _, rfl, DPut.k (k := .inr t1[i].1) g3 ?_, ⟨_, rfl⟩, b3.tr bt_upd, ?_⟩
          · rw [kd_len]
            have := low_len (t := t1.take i) (s := S)
            rw [List.length_take] at this
            have := tb1.len
            exact small1000 (by omega)
          · rw [upd_same, kd_put, put_low ndt, et, low_snoc, if_pos g]
        · rw [decide_eq_false g]
          refine iteF ⟨⟨_, rfl⟩, b3, ?_⟩
          rw [et, low_snoc, if_neg g]
          exact g3
      · obtain ⟨⟨bb, rfl⟩, b3, g3⟩ := p
        rw [kd_len, List.take_length] at g3
        have fz := b3 _ _ hl1 hd2.symm
        refine ⟨fz, ?_⟩
        generalize eH5 : upd H3 d1 (.dK (kd t1)) = H5
        have g5 : H5 D2 = some (.dK (kd (low t1 S))) := by rw [← eH5, upd_ne hd2]; exact g3
        have s5 : Same H1 H5 := fun bq o e => by
          have q1 := s3 _ _ (s2 _ _ e)
          by_cases z : bq = d1
          · rw [z] at e q1
            rw [z, ← eH5, upd_same, ← q1]
            exact h1c.symm
          · rw [← eH5, upd_ne z]
            refine b3 _ _ ?_ (ne_of_none e hD2n)
            rw [← eHl, upd_ne z]
            exact q1
        refine ⟨_, rfl, _, rfl, _, rfl, _, _, rfl, rfl, by show 2 ≤ sizeLine; decide, fun q hq => ⟨q, _, rfl, .inl (.inl upd_same), rfl, _, _, rfl, _, _, rfl, rfl, ?_⟩⟩
        refine ⟨_, rfl, _, rfl, _, _, rfl, rfl, ?_⟩
        have st := arr_step hk c
        rw [st] at r1 r2
        subst eS
        refine ⟨(n1 - min n1 (mn t1)).toNat, by omega, D2, low t1 (min n1 (mn t1)), n1 - min n1 (mn t1), l1 + min n1 (mn t1), _, _, _, rfl, (s1.trans s5).trans (sm_new hq), sm_new hq _ _ g5, tb1.low, by omega, rfl, r1, ?_⟩
        rw [← r2]
        show _ = l1 + (_ + _)
        omega
  · rw [decide_eq_false c]
    rw [arr_end c] at r1 r2
    refine iteF ⟨_, rfl, d1, _, rfl, .inl h1, fun p hp => ⟨_, rfl, n1, 0, rfl, rfl, _, rfl, ?_⟩⟩
    have s2 : Same H1 (upd H1 p (.dK (kd t1))) := sm_new hp
    have e2 : l1 = (arr k t x n).2 := by
      rw [← r2]
      exact (Int.add_zero _).symm
    have h1p := s2 _ _ h1
    by_cases c1 : 0 < n1
    · rw [decide_eq_true c1]
      rw [if_pos c1] at r1
      refine iteT ⟨_, rfl, d1, rfl, .inl ⟨_, .inl h1p⟩, _, rfl, _, dgo (.inl h1p), _, rfl, _, _, getD_val _ _, rfl, _, rfl, _, rfl, p, _, rfl, DPut.k (k := .inr x) upd_same ?_, ?_⟩
      · rw [kd_len]
        exact small1000 (Nat.le_trans tb1.len (by decide))
      · rw [kd_put]
        refine ⟨_, rfl, _, rfl, by show 2 ≤ sizeLine; decide, fun q hq => fin p q _ ?_ ?_ ?_⟩
        · exact ((sm_mut (s1.trans s2) (s1.free hp)).trans (sm_new hq))
        · rw [upd_ne (ne_of_none upd_same hq), upd_same, ← r1]
          rfl
        · rw [upd_same, e2]
    · rw [decide_eq_false c1]
      rw [if_neg c1] at r1
      refine iteF ⟨_, rfl, _, rfl, by show 2 ≤ sizeLine; decide, fun q hq => fin p q _ ((s1.trans s2).trans (sm_new hq)) ?_ ?_⟩
      · rw [upd_ne (ne_of_none upd_same hq), upd_same, ← r1]
      · rw [upd_same, e2]
theorem ok_lplayed (T : Tx w K mg) : Fn1 P w K mg base 3 "_law_played" ["_law_width", "_law_held_here", "_law_path_here"] [] (spPlayed (K := K)) := by
  refine T.E__law_played (fun vs H Q E h => ?_) (fun cdv A outer s H vs Q E hr h => ?_)
  · obtain ⟨_, _, _, _, _, rfl, _⟩ := h
    rfl
  obtain ⟨k, d, t, v, rs, rfl, hd, tk, hk, hk2, ⟨a, xs, rfl, ha, hp⟩, hrs, fin⟩ := h
  have hl := pd_len hp
  refine ⟨_, pss_cons (ps_set (i := 3) sc__law_played.nd rfl (Or.inl rfl) pe_int)
    (pss_cons (ps_for PassesOwn.never rfl (pi_tup (pv 2)) (pg_tup rfl (pgs_cons (pg_name (i := 4) sc__law_played.nd rfl (Or.inl rfl)) (pgs_cons (pg_name (i := 5) sc__law_played.nd rfl (Or.inl rfl)) pgs_nil)))
      (pss_cons (ps_asg (pe_f (ok_lrun T) hr (pa_cons (pv 0) (pa_cons (pv 1) (pa_cons (pv 4) (pa_cons (pv 5) pa_nil))))) (pg_tup rfl (pgs_cons (pg_name (i := 1) sc__law_played.nd rfl (Or.inl rfl)) (pgs_cons (pg_name (i := 6) sc__law_played.nd rfl (Or.inl rfl)) pgs_nil))))
      (pss_one (ps_set (i := 3) sc__law_played.nd rfl (Or.inl rfl) (pe_op op_add (pv 3) (pv 6))))))
    (pss_one (ps_ret (pe_tup (pa_cons (pv 1) (pa_cons (pv 3) pa_nil)))))), ?_⟩
  refine ⟨_, rfl, a, rfl, ⟨xs, ha⟩, ?_⟩
  refine for_it walk_tup (fun i σ H' => Same H H' ∧ ∃ e x y z, σ = [some (.int k), some (.ref e), some (.ref a), some (.int (play k t (rs.take i)).2), x, y, z] ∧ H' e = some (.dK (kd (play k t (rs.take i)).1))) ⟨Same.refl _, d, none, none, none, rfl, hd⟩ (fun i σ H' _ p => st_sm p.1 ha) (fun i x σ H1 H2 hi p y => ?_) fun σ H1 p => ?_
  · obtain ⟨s1, e, x0, y0, z0, rfl, h1⟩ := p
    obtain ⟨rfl, ex⟩ := y
    obtain ⟨q, eq, b, rfl, hb⟩ := pd_get hp ex
    have et : rs.take (i + 1) = rs.take i ++ [q] := by
      rw [List.take_succ, eq]
      rfl
    have sub : ∀ r ∈ rs.take i, 1 ≤ r.2 := fun r h => hrs r (List.mem_of_mem_take h)
    refine ⟨b, _, rfl, st_sm s1 hb, rfl, _, _, rfl, _, _, rfl, rfl, ?_⟩
    refine ⟨_, rfl, _, rfl, _, rfl, _, rfl, k, e, _, q.1, q.2, rfl, h1, (play_tk hk sub tk).tb hk2, hk, hrs q (List.mem_of_getElem? eq), fun e2 p H3 s3 h3 h4 => ⟨p, _, rfl, .inl (.inl h4), rfl, _, _, rfl, _, _, rfl, rfl, ?_⟩⟩
    refine ⟨_, rfl, _, rfl, _, _, rfl, rfl, s1.trans s3, e2, some (.str q.1), some (.int q.2), some (.int (arr k (play k t (rs.take i)).1 q.1 q.2).2), ?_, ?_⟩
    · rw [et, play_snoc]
      rfl
    · rw [et, play_snoc]
      exact h3
  · obtain ⟨s1, e, x0, y0, z0, rfl, h1⟩ := p
    rw [hl, List.take_length] at h1 ⊢
    exact ⟨_, rfl, _, rfl, by show 2 ≤ sizeLine; decide, fun p hp => fin e p _ (s1.trans (sm_new hp)) (sm_new hp _ _ h1) upd_same⟩
end
end Kx
set_option Elab.async false
set_option linter.all false
set_option maxRecDepth 100000
set_option maxHeartbeats 4000000
namespace Kx
open PySem PySem.Spec PyProof.Rows L2
theorem val_less {t : Tab} {c : Int} {x : Str} (nd : (nms t).Nodup) (h : x ∈ nms t) : val (less t c) x = val t x - c := by
  obtain ⟨p, h1, rfl⟩ := List.mem_map.mp h
  have m : (p.1, p.2 - c) ∈ less t c := List.mem_map.mpr ⟨p, h1, rfl⟩
  have e := val_mem (by rw [nms_less]; exact nd) m
  rw [val_mem nd h1]
  exact e
theorem mrg_law {k : Nat} {a b : Tab} : mrg k a b = ((srtN (nms (tab (a ++ b)))).filter fun x => decide (cut k (tab (a ++ b)) < val (tab (a ++ b)) x)).map fun x => (x, val (tab (a ++ b)) x - cut k (tab (a ++ b))) := by
  have nd := tab_nd (a ++ b)
  unfold mrg flatP
  rw [nms_less]
  have e : (srtN (nms (tab (a ++ b)))).filter (fun x => decide (0 < val (less (tab (a ++ b)) (cut k (tab (a ++ b)))) x)) = (srtN (nms (tab (a ++ b)))).filter fun x => decide (cut k (tab (a ++ b)) < val (tab (a ++ b)) x) := by
    refine List.filter_congr fun x hx => ?_
    rw [val_less nd (mem_srtN.mp hx)]
    exact decide_eq_decide.mpr ⟨fun h => by omega, fun h => by omega⟩
  rw [e]
  refine List.map_congr_left fun x hx => ?_
  rw [val_less nd (mem_srtN.mp (List.mem_filter.mp hx).1)]
theorem tab_app (a b : Tab) : tab (a ++ b) = b.foldl (fun t p => add t p.1 p.2) (tab a) := by
  unfold tab
  rw [List.foldl_append]
section
variable {P : Program} {w : World} {K : PySem.W.Frag} {mg : Str → Option Value} {base : Heap}
def spFlat : Sp := fun vs H Q _ => ∃ (d : Addr) (t : Tab), vs = [.ref d] ∧ H d = some (.dK (kd t)) ∧ t.length < 64 ∧ ∀ v H', Same H H' → TupOf K (PrV K) H' v (flat t) → Q v H'
theorem ok_lflat (T : Tx w K mg) : Fn1 P w K mg base 1 "_law_flat" ["_law_held_here"] [] (spFlat (K := K)) := by
  refine T.E__law_flat (fun vs H Q E h => ?_) (fun cdv A outer s H vs Q E hr h => ?_)
  · obtain ⟨_, _, rfl, _⟩ := h
    rfl
  obtain ⟨d, t, rfl, hd, hz, fin⟩ := h
  have hu := hu_of hr
  refine ⟨_, pss_one (ps_ret (pe_callTy call_tuple_of rfl T.b_tuple bt_tuple (pa_cons (pe_lc (own := [("_law_word", 1)]) (tt := tYes) rfl sc__law_flat.nd (pi_list (pe_callB (call_sortedD rfl) rfl T.b_sorted bt_sorted (pa_cons (pv 0) pa_nil))) (blkOk_by (N := n__law_flat) (sc := defScope s__law_flat) (by decide +kernel))
      (fun _ _ _ _ _ => pg_name (i := 1) sc__law_flat.nd rfl (Or.inl rfl)) (fun _ _ _ _ _ => pts_nil) (fun _ _ _ _ _ => pe_tup (pa_cons (pv 1) (pa_cons (pe_dget hu (pv 0) (pv 1) (fun _ _ => rfl)) pa_nil)))) pa_nil))), ?_⟩
  refine ⟨_, rfl, d, _, nms t, rfl, .inl hd, kd_keys t, by simpa using hz, fun ys p pm so hp => ⟨p, rfl, ⟨_, SqL.of upd_same⟩, fun D hD => ?_⟩⟩
  obtain rfl := sortedS_srt pm so
  have hS := sm_new (o := .lst ((srtN (nms t)).map V.str)) hp
  have hlen := srtN_len (nms t)
  rw [List.length_map] at hlen
  refine lc_M (C := 0) (walk_list (xs := (srtN (nms t)).map V.str)) (srtN (nms t)) (fun x => (x, val t x)) (PrV K) stb_pr (by simp) (by rw [List.length_map]; omega) hD (fun H' s => SqL.of (s _ _ upd_same)) (fun i x v H1 H2 F1 hi s y f1 => ?_) fun ys H1 s hy q => ?_
  · obtain ⟨rfl, ev⟩ := y
    rw [List.getElem?_map, hi] at ev
    cases ev
    have hd1 := s _ _ (hS _ _ hd)
    have hx := lk_val (mem_srtN.mp (List.mem_of_getElem? hi))
    exact ⟨rfl, _, rfl, _, rfl, _, rfl, d, _, rfl, dg (.inl hd1) hx, by show 2 ≤ sizeLine; decide, fun q hq => f1 _ _ (sm_new hq) ⟨q, rfl, .inl (.inl upd_same)⟩⟩
  · refine ⟨D, ys, rfl, .inl ⟨SqL.of hy, fun l hl => ?_⟩⟩
    have s2 := sm_new (o := .tup ys) hl
    exact fin _ _ ((hS.trans s).trans s2) ⟨l, ys, rfl, .inl (.inl upd_same), pd_imp (fun _ _ h => stb_pr.sm (C := 0) s2 h) q⟩
def spHeld : Sp := fun vs H Q _ => ∃ (v : V) (t : Tab), vs = [v] ∧ TupOf K (PrV K) H v t ∧ (nms t).Nodup ∧ t.length ≤ 60 ∧ ∀ d H', Same H H' → H d = none → H' d = some (.dK (kd t)) → Q (.ref d) H'
theorem ok_lheld (T : Tx w K mg) : Fn1 P w K mg base 1 "_law_held" ["_law_bag_here"] [] (spHeld (K := K)) := by
  refine T.E__law_held (fun vs H Q E h => ?_) (fun cdv A outer s H vs Q E hr h => ?_)
  · obtain ⟨_, _, rfl, _⟩ := h
    rfl
  obtain ⟨v, t, rfl, ⟨a, xs, rfl, ha, hp⟩, nd, hz, fin⟩ := h
  have hu := hu_of hr
  have hl := pd_len hp
  refine ⟨_, pss_cons (ps_set (i := 1) sc__law_held.nd rfl (Or.inl rfl) pe_dnewK)
    (pss_cons (ps_for PassesOwn.never rfl (pi_tup (pv 0)) (pg_tup rfl (pgs_cons (pg_name (i := 2) sc__law_held.nd rfl (Or.inl rfl)) (pgs_cons (pg_name (i := 3) sc__law_held.nd rfl (Or.inl rfl)) pgs_nil)))
      (pss_one (ps_asg (pv 3) (pg_sub (pv 1) (pv 2) (set_dict hu))))) (pss_one (ps_ret (pv 1)))), ?_⟩
  intro d hd
  refine ⟨_, rfl, a, rfl, ⟨xs, st_sm (sm_new hd) ha⟩, ?_⟩
  refine for_it walk_tup (fun i σ H' => Same H H' ∧ (∃ x y, σ = [some (.ref a), some (.ref d), x, y]) ∧ H' d = some (.dK (kd (held (t.take i))))) ⟨sm_new hd, ⟨none, none, rfl⟩, upd_same⟩ (fun i σ H' _ p => st_sm p.1 ha) (fun i x σ H1 H2 hi p y => ?_) fun σ H1 p => ?_
  · obtain ⟨s1, ⟨x0, y0, rfl⟩, h1⟩ := p
    obtain ⟨rfl, ex⟩ := y
    obtain ⟨q, eq, b, rfl, hb⟩ := pd_get hp ex
    have e : t.take (i + 1) = t.take i ++ [q] := by
      rw [List.take_succ, eq]
      rfl
    refine ⟨b, _, rfl, st_sm s1 hb, rfl, _, _, rfl, _, _, rfl, rfl, ?_⟩
    refine ⟨_, rfl, _, rfl, _, rfl, d, _, rfl, DPut.k (k := .inr q.1) h1 ?_, sm_mut s1 hd, ⟨_, _, rfl⟩, ?_⟩
    · rw [kd_len]
      have := held_len (t.take i)
      rw [List.length_take] at this
      exact small1000 (by omega)
    · rw [upd_same, kd_put, e, held_snoc]
  · obtain ⟨s1, ⟨x0, y0, rfl⟩, h1⟩ := p
    rw [hl, List.take_length, held_id nd] at h1
    exact ⟨_, rfl, fin d _ s1 hd h1⟩
def spLMerged : Sp := fun vs H Q _ => ∃ (k : Nat) (u v : V) (s t : Tab), vs = [.int k, u, v] ∧ TupOf K (PrV K) H u s ∧ TupOf K (PrV K) H v t ∧ Cn k s ∧ Cn k t ∧ k ≤ 8 ∧ ∀ r H', Same H H' → TupOf K (PrV K) H' r (mrg k s t) → Q r H'
theorem ok_lmerged (T : Tx w K mg) : Fn1 P w K mg base 2 "_law_merged" ["_law_width", "_law_one_bag", "_law_more_bag"] [] (spLMerged (K := K)) := by
  refine T.E__law_merged (fun vs H Q E h => ?_) (fun cdv A outer s H vs Q E hr h => ?_)
  · obtain ⟨_, _, _, _, _, rfl, _⟩ := h
    rfl
  obtain ⟨k, u, v, s, t, rfl, hs, ht, c1, c2, hk8, fin⟩ := h
  have hu := hu_of hr
  have l1 := c1.len
  have l2 := c2.len
  refine ⟨_, pss_cons (ps_set (i := 3) sc__law_merged.nd rfl (Or.inr rfl) (pe_f (ok_lheld T) hr (pa_cons (pv 1) pa_nil)))
    (pss_cons (ps_for PassesOwn.never rfl (pi_tup (pv 2)) (pg_tup rfl (pgs_cons (pg_name (i := 4) sc__law_merged.nd rfl (Or.inl rfl)) (pgs_cons (pg_name (i := 5) sc__law_merged.nd rfl (Or.inl rfl)) pgs_nil)))
      (pss_one (ps_asg (pe_op op_add (pe_dget2 hu (pv 3) (pv 4) pe_int ⟨rfl, rfl, rfl, rfl⟩) (pv 5)) (pg_sub (pv 3) (pv 4) (set_dict hu)))))
    (pss_cons (ps_set (i := 6) sc__law_merged.nd rfl (Or.inl rfl) (pe_callBK (cr_sortedRev (b := true)) rfl T.b_sorted bt_sorted (pa_cons (pe_lock (pe_lc (own := [("_law_word", 4)]) (g := gName 4) (tt := tYes) rfl sc__law_merged.nd (pi_keys (pv 3)) (blkOk_by (N := n__law_merged) (sc := defScope s__law_merged) (by decide +kernel))
        (fun _ _ _ _ _ => pg_name (i := 4) sc__law_merged.nd rfl (Or.inl rfl)) (fun _ _ _ _ _ => pts_nil) (fun _ _ _ _ _ => pe_dget hu (pv 3) (pv 4) (fun _ _ => rfl)))) pa_nil) (pk_cons pe_bl pk_nil)))
    (pss_cons (ps_set (i := 7) sc__law_merged.nd rfl (Or.inr rfl) (pe_ifExp (pt_cmpR op_gt (pe_callB call_len_seq rfl T.b_len bt_len (pa_cons (pv 6) pa_nil)) (pv 0) (nomark _)) (pe_ix ix_list (pv 6) (pv 0) (fun _ _ => rfl)) pe_int))
    (pss_one (ps_ret (pe_callTy call_tuple_of rfl T.b_tuple bt_tuple (pa_cons (pe_lc (own := [("_law_word", 4)]) rfl sc__law_merged.nd (pi_list (pe_callB (call_sortedD rfl) rfl T.b_sorted bt_sorted (pa_cons (pv 3) pa_nil))) (blkOk_by (N := n__law_merged) (sc := defScope s__law_merged) (by decide +kernel))
      (fun _ _ _ _ _ => pg_name (i := 4) sc__law_merged.nd rfl (Or.inl rfl)) (fun _ _ _ _ _ => pts_one (pt_cmpR op_gt (pe_dget hu (pv 3) (pv 4) (fun _ _ => rfl)) (pv 7) (nomark _))) (fun _ _ _ _ _ => pe_tup (pa_cons (pv 4) (pa_cons (pe_op op_sub (pe_dget hu (pv 3) (pv 4) (fun _ _ => rfl)) (pv 7)) pa_nil)))) pa_nil))))))), ?_⟩
  refine ⟨_, rfl, u, s, rfl, hs, asc_nd c1.asc, by omega, fun d H1 s1 hdn h1 => ?_⟩
  obtain ⟨a, xs, rfl, ha, hp⟩ := ht
  have hl := pd_len hp
  refine ⟨_, rfl, a, rfl, ⟨xs, st_sm s1 ha⟩, ?_⟩
  have e0 : tab s = s := tab_id (asc_nd c1.asc)
  refine for_it walk_tup (fun i σ H' => Same H H' ∧ (∃ x y, σ = [some (.int k), some u, some (.ref a), some (.ref d), x, y, none, none]) ∧ H' d = some (.dK (kd (tab (s ++ t.take i))))) ⟨s1, ⟨none, none, rfl⟩, by rw [List.take_zero, List.append_nil, e0]; exact h1⟩ (fun i σ H' _ p => st_sm p.1 ha) (fun i x σ H2 H3 hi p y => ?_) fun σ H2 p => ?_
  · obtain ⟨s2, ⟨x0, y0, rfl⟩, h2⟩ := p
    obtain ⟨rfl, ex⟩ := y
    obtain ⟨q, eq, b, rfl, hb⟩ := pd_get hp ex
    have e : s ++ t.take (i + 1) = (s ++ t.take i) ++ [q] := by
      rw [List.take_succ, eq, List.append_assoc]
      rfl
    refine ⟨b, _, rfl, st_sm s2 hb, rfl, _, _, rfl, _, _, rfl, rfl, ?_⟩
    refine ⟨_, rfl, d, rfl, .inl ⟨_, .inl h2⟩, _, rfl, _, dgo (.inl h2), _, rfl, _, _, getD_val _ _, rfl, ?_⟩
    refine ⟨_, rfl, _, rfl, d, _, rfl, DPut.k (k := .inr q.1) h2 ?_, sm_mut s2 hdn, ⟨_, _, rfl⟩, ?_⟩
    · rw [kd_len]
      have := tab_len (s ++ t.take i)
      rw [List.length_append, List.length_take] at this
      exact small1000 (Nat.le_trans this (by omega))
    · rw [upd_same, kd_put, e, tab_snoc]
      rfl
  · obtain ⟨s2, ⟨x0, y0, rfl⟩, h3⟩ := p
    rw [hl, List.take_length] at h3
    have nd := tab_nd (s ++ t)
    have tl := tab_len (s ++ t)
    have ll : (s ++ t).length ≤ 16 := by
      rw [List.length_append]
      show s.length + t.length ≤ 16
      omega
    refine ⟨d, _, h3, trivial, fun od => ⟨_, rfl, d, od, rfl, .inl ⟨_, upd_same, fun D hD => ?_⟩⟩⟩
    have hdD : D ≠ d := fun e => by rw [e, upd_same] at hD; cases hD
    refine lc_M (C := 0) walk_keys (tab (s ++ t)) (fun p => p.2) IntV stb_int (kd_len _).symm (by rw [kd_len]; exact Nat.le_trans tl (Nat.le_trans ll (by decide))) hD (fun H' s => s _ _ upd_same) (fun i q v H3 H4 F1 hi s y f1 => ?_) fun ys H3 s3 hy q => ?_
    · obtain ⟨rfl, k', v', ek, rfl⟩ := y
      obtain ⟨rfl, rfl⟩ := kd_at hi ek
      exact ⟨rfl, _, rfl, _, rfl, d, _, rfl, dg (.inr ⟨od, s _ _ upd_same⟩) (lk_mem nd (List.mem_of_getElem? hi)), f1 _ _ (Same.refl _) rfl⟩
    have s4 : Same H2 (upd H3 d (.dK (kd (tab (s ++ t))))) := sm_lock h3 s3
    have ey : ys = ((tab (s ++ t)).map (·.2)).map V.int := pd_eq (h := V.int) q
    refine ⟨s3 _ _ upd_same, D, (tab (s ++ t)).map (·.2), rfl, rfl, SqL.of (by rw [upd_ne hdD, hy, ey]), fun ns p1 pm od' hp1 => ?_⟩
    obtain rfl : ns = rk (tab (s ++ t)) := pwI_eq od' (rk_pw _) (pm.trans (rk_perm _).symm)
    have s5 := s4.trans (sm_new (o := .lst ((rk (tab (s ++ t))).map V.int)) hp1)
    generalize eH5 : upd (upd H3 d (.dK (kd (tab (s ++ t))))) p1 (.lst ((rk (tab (s ++ t))).map V.int)) = H5 at s5
    have g1 : H5 p1 = some (.lst ((rk (tab (s ++ t))).map V.int)) := eH5 ▸ upd_same
    have h5 := s5 _ _ h3
    refine ⟨_, rfl, p1, _, rfl, .inl (SqL.of g1), _, rfl, _, _, rfl, rfl, _, rfl, ?_⟩
    rw [List.length_map, rk_len]
    have fin2 : ∀ {F : V → Hp → Prop} {σ : L2.St}, σ[6]? = some (some (.ref p1)) → σ[0]? = some (some (.int k)) → F (.int (cut k (tab (s ++ t)))) H5 → (if decide ((k : Int) < ((tab (s ++ t)).length : Nat)) = true then (tOp (rIxL K) (tVar 6) (tVar 0)) σ H5 F else F (.int 0) H5) := fun {F σ} z6 z0 h => by
      by_cases c : k < (tab (s ++ t)).length
      · rw [decide_eq_true (show (k : Int) < ((tab (s ++ t)).length : Nat) by omega)]
        refine iteT ⟨_, z6, _, z0, p1, _, (k : Int), .int (cut k (tab (s ++ t))), rfl, rfl, SqL.of g1, ?_, h⟩
        have hk' : k < (rk (tab (s ++ t))).length := by rw [rk_len]; exact c
        refine atI_nat (j := k) ?_
        rw [List.getElem?_map, List.getElem?_eq_getElem hk']
        unfold cut
        rw [if_pos c]
        simp [hk']
      · rw [decide_eq_false (show ¬ (k : Int) < ((tab (s ++ t)).length : Nat) by omega)]
        refine iteF ?_
        have e : cut k (tab (s ++ t)) = 0 := by
          unfold cut
          rw [if_neg c]
        rw [e] at h
        exact h
    refine fin2 rfl rfl ?_
    generalize eC : cut k (tab (s ++ t)) = c0
    refine ⟨_, rfl, d, _, nms (tab (s ++ t)), rfl, .inl h5, kd_keys _, by rw [nms_len]; exact Nat.lt_of_le_of_lt tl (Nat.lt_of_le_of_lt ll (by decide)), fun ys p pm so hp => ⟨p, rfl, ⟨_, SqL.of upd_same⟩, fun D2 hD2 => ?_⟩⟩
    obtain rfl := sortedS_srt pm so
    have hS := sm_new (o := .lst ((srtN (nms (tab (s ++ t)))).map V.str)) hp
    have hlen := srtN_len (nms (tab (s ++ t)))
    rw [List.length_map] at hlen
    refine lc_R (C := 0) (walk_list (xs := (srtN (nms (tab (s ++ t)))).map V.str)) (srtN (nms (tab (s ++ t)))) (fun x => decide (c0 < val (tab (s ++ t)) x)) (fun x => (x, val (tab (s ++ t)) x - c0)) (PrV K) stb_pr (by simp) (by rw [List.length_map, hlen]; exact Nat.le_trans tl (Nat.le_trans ll (by decide))) hD2 (fun H' s => SqL.of (s _ _ upd_same)) (fun i x v H6 H7 F1 F0 hi s' y f1 f0 => ?_) fun ys H6 s6 hy6 q6 => ?_
    · obtain ⟨rfl, ev⟩ := y
      rw [List.getElem?_map, hi] at ev
      cases ev
      have hd1 := s' _ _ (hS _ _ h5)
      have hx := lk_val (mem_srtN.mp (List.mem_of_getElem? hi))
      refine ⟨rfl, _, rfl, _, rfl, d, _, rfl, dg (.inl hd1) hx, _, rfl, _, _, rfl, rfl, _, rfl, ?_⟩
      cases e : decide (c0 < val (tab (s ++ t)) x) with
      | false => exact iteF (f0 e _ (Same.refl _))
      | true => exact iteT ⟨_, rfl, _, rfl, _, rfl, d, _, rfl, dg (.inl hd1) hx, _, rfl, _, _, rfl, rfl, by show 2 ≤ sizeLine; decide, fun q hq => f1 e _ _ (sm_new hq) ⟨q, rfl, .inl (.inl upd_same)⟩⟩
    · refine ⟨D2, ys, rfl, .inl ⟨SqL.of hy6, fun l hl => ?_⟩⟩
      have s7 := sm_new (o := .tup ys) hl
      refine fin _ _ (s2.trans (s5.trans (hS.trans (s6.trans s7)))) ⟨l, ys, rfl, .inl (.inl upd_same), ?_⟩
      rw [mrg_law, eC]
      exact pd_imp (fun _ _ h => stb_pr.sm (C := 0) s7 h) q6
theorem ok_ltext (T : Tx w K mg) : Fn1 P w K mg base 1 "_law_text" ["_law_bag_here"] [] (spText (K := K)) := by
  refine T.E__law_text (fun vs H Q E h => ?_) (fun cdv A outer s H vs Q E hr h => ?_)
  · obtain ⟨_, _, rfl, _⟩ := h
    rfl
  obtain ⟨v, t, rfl, ⟨a, xs, rfl, ha, hp⟩, hn, hsm, hz, fin⟩ := h
  have hl := pd_len hp
  refine ⟨_, pss_cons (ps_setLc (i := 1) (own := [("_law_word", 2), ("_law_many", 3)]) (g := gTup K 2 (gCons (gName 2) (gCons (gName 3) gNil))) (tt := tYes) rfl sc__law_text.nd rfl rfl rfl (pi_tup (pv 0)) (blkOk_by (N := n__law_text) (sc := defScope s__law_text) (by decide +kernel))
    (fun _ _ _ _ _ => pg_tup rfl (pgs_cons (pg_name (i := 2) sc__law_text.nd rfl (Or.inl rfl)) (pgs_cons (pg_name (i := 3) sc__law_text.nd rfl (Or.inl rfl)) pgs_nil))) (fun _ _ _ _ _ => pts_nil)
    (fun _ _ _ _ _ => pe_op op_add_str (pe_op op_add_str (pv 2) pe_str) (pe_callTy call_str_int (by rfl) T.b_str bt_str (pa_cons (pv 3) pa_nil))))
    (pss_one (ps_ret (pe_ifExp (pt_cmpR (op_neNilL hr.units0) (pv 1) (pe_lst pa_nil) (nomark _)) (pe_join pe_str (pv 1)) pe_str))), ?_⟩
  refine ⟨_, rfl, a, rfl, ⟨xs, ha⟩, fun D hD => ?_⟩
  refine lc_M (C := 0) walk_tup t cnt (fun _ v y => v = .str y) ⟨fun _ h => h⟩ hl.symm (by omega) hD (fun H' s => st_sm s ha) (fun i p v H1 H2 F1 hi s y f1 => ?_) fun ys H1 s hy q => ?_
  · obtain ⟨rfl, ex⟩ := y
    obtain ⟨q, eq, b, rfl, hb⟩ := pd_get hp ex
    rw [hi] at eq
    cases eq
    have hpm := List.mem_of_getElem? hi
    have k1 := hn p hpm
    have k2 := hsm p hpm
    have k3 := PyProof.Rows.int_text_len_1921 k2
    have z : sizeLine = 16777216 := sizeLine_eq
    refine ⟨b, _, rfl, st_sm s hb, rfl, _, _, rfl, _, _, rfl, rfl, rfl, _, rfl, _, _, rfl, rfl, ?_, _, rfl, p.2, rfl, k2, _, _, rfl, rfl, ?_, f1 _ _ (Same.refl _) ?_⟩
    · show p.1.length + 1 ≤ sizeLine
      omega
    · rw [PySem.Str.length_append]
      show p.1.length + 1 + (Str.ofString (toString p.2)).length ≤ sizeLine
      omega
    · unfold cnt
      rw [PySem.Str.empty_append]
  · have ey : ys = (t.map cnt).map V.str := pd_eq (h := V.str) q
    refine ⟨_, rfl, Nat.zero_le _, fun p hp' => ?_⟩
    have s2 : Same H1 (upd H1 p (.lst [])) := sm_new hp'
    refine ⟨D, p, ys, rfl, rfl, SqL.of (s2 _ _ hy), SqL.of upd_same, _, rfl, ?_⟩
    have e : t = [] ∨ t ≠ [] := by
      cases t <;> simp
    rcases e with rfl | ne
    · rw [ey]
      exact iteF (fin _ (s.trans s2))
    · have et : txt t = Txt.join " " (t.map cnt) := by
        unfold txt
        rw [if_neg ne]
      have e1 : ys.isEmpty = false := by
        rw [ey]
        cases t with
        | nil => exact absurd rfl ne
        | cons _ _ => rfl
      rw [e1]
      have hs := sum_cnt hn hsm
      refine iteT ⟨⟨_, rfl⟩, _, rfl, " ", D, t.map cnt, rfl, rfl, .inl (SqL.of (ey ▸ s2 _ _ hy)), ?_, ?_⟩
      · rw [List.length_map]
        show _ + t.length * 1 ≤ _
        omega
      · rw [← et]
        exact fin _ (s.trans s2)
end
end Kx
set_option Elab.async false
set_option linter.all false
set_option maxRecDepth 100000
set_option maxHeartbeats 4000000
namespace Kx
open PySem PySem.Spec PyProof.Rows L2
section
variable {P : Program} {w : World} {K : PySem.W.Frag} {mg : Str → Option Value} {base : Heap}
theorem pool_tv {C : Addr} {H H' : Hp} {p : Addr} (h : PoolAt H p) (s : But p H H') : Tv C H H' := sv_tv (pool_sv h s)
theorem pool_upd {H : Hp} {p D : Addr} {o : HO} (ne : D ≠ p) (h : PoolAt H p) : PoolAt (upd H D o) p := by
  obtain ⟨a, b, c, h, r⟩ := h
  exact ⟨a, b, c, by rw [upd_ne ne.symm]; exact h, r⟩
theorem bt_mut {H H' : Hp} {a b : Addr} {o : HO} (s : But a H H') (h : H b = none) : But a H (upd H' b o) := fun c u e n => by
  rw [upd_ne (ne_of_none e h)]
  exact s c u e n
/-- words for a script: names, none twice, eight at most -/
structure Wds (ws : List Str) : Prop where
  nd : ws.Nodup
  nm : ∀ x ∈ ws, IsNm x
  len : ws.length ≤ 8
  pos : ws ≠ []
def bigN : Int := 10 ^ 30
def Bag (ws : List Str) (t : Tab) : Prop := Cn 8 t ∧ ∀ q ∈ t, q.2 ≤ bigN ∧ q.1 ∈ ws
def spBag : Sp := fun vs H Q _ => ∃ (p l : Addr) (ws : List Str), vs = [.ref p, .ref l, .int 0] ∧ PoolAt H p ∧ H l = some (.lst (ws.map V.str)) ∧ Wds ws ∧ ∀ u t H', But p H H' → PoolAt H' p → TupOf K (PrV K) H' u t → Bag ws t → Q u H'
theorem ok_lbag (T : Tx w K mg) : Fn1 P w K mg base 3 "_law_bag" ["_law_pool_here", "_law_words_here", "_law_most"] [] (spBag (K := K)) := by
  refine T.E__law_bag (fun vs H Q E h => ?_) (fun cdv A outer s H vs Q E hr h => ?_)
  · obtain ⟨_, _, _, rfl, _⟩ := h
    rfl
  obtain ⟨p, l, ws, rfl, hp, hl, W, fin⟩ := h
  have wl := W.len
  refine ⟨_, pss_cons (ps_set (i := 3) sc__law_bag.nd rfl (Or.inl rfl) (pe_lst pa_nil))
    (pss_cons (ps_for PassesOwn.never rfl (pi_list (pe_callB cr_sortedS rfl T.b_sorted bt_sorted (pa_cons (pv 1) pa_nil))) (pg_name (i := 4) sc__law_bag.nd rfl (Or.inl rfl))
      (pss_one (ps_if (pt_cmpR op_gt (pe_f (ok_ldraw T) (hr.mono (by decide)) (pa_cons (pv 0) (pa_cons pe_int pa_nil))) pe_int (nomark _)) (pss_one (ps_expr (pe_bm PySem.F.plainAttrs_list PySem.F.slot_list_append PySem.F.type_list_append mt_append (pv 3) (pa_cons (pe_tup (pa_cons (pv 4) (pa_cons (pe_ifExp (pt_cmpR op_eq (pv 2) pe_int (nomark _)) (pe_f (ok_loften T) hr (pa_cons (pv 0) pa_nil)) (pe_op op_add pe_int (pe_f (ok_ldraw T) (hr.mono (by decide)) (pa_cons (pv 0) (pa_cons (pv 2) pa_nil))))) pa_nil))) pa_nil)))) pss_nil)))
    (pss_one (ps_ret (pe_callTy call_tuple_of rfl T.b_tuple bt_tuple (pa_cons (pv 3) pa_nil))))), ?_⟩
  refine ⟨Nat.zero_le _, fun D hD => ⟨_, rfl, l, ws, rfl, SqL.of (sm_new hD _ _ hl), by omega, fun ys q pm so hq => ?_⟩⟩
  obtain rfl := sortedS_srt pm so
  have hpD : D ≠ p := by
    obtain ⟨a, b, c, h, _⟩ := hp
    exact (ne_of_none h hD).symm
  have hqD : q ≠ D := fun e => by rw [e, upd_same] at hq; cases hq
  have hpq : q ≠ p := by
    obtain ⟨a, b, c, h, _⟩ := hp
    exact fun e => by rw [e, upd_ne hpD.symm, h] at hq; cases hq
  generalize eH1 : upd (upd H D (.lst [])) q (.lst ((srtN ws).map V.str)) = H1
  have s1 : Same H H1 := eH1 ▸ Same.trans (sm_new hD) (sm_new hq)
  have g1 : H1 q = some (.lst ((srtN ws).map V.str)) := eH1 ▸ upd_same
  have d1 : H1 D = some (.lst []) := by rw [← eH1, upd_ne hqD.symm, upd_same]
  refine ⟨q, rfl, ⟨_, SqL.of g1⟩, ?_⟩
  have asc : (srtN ws).Pairwise fun a b => a.cps.toList < b.cps.toList := ((srtN_pw ws).and ((srtN_perm ws).nodup_iff.mpr W.nd)).imp fun q => lt_of_leN q.1 q.2
  refine for_it (walk_list (xs := (srtN ws).map V.str)) (fun i σ H' => (∃ x, σ = [some (.ref p), some (.ref l), some (.int 0), some (.ref D), x]) ∧ But p H H' ∧ PoolAt H' p ∧ H' q = some (.lst ((srtN ws).map V.str)) ∧ ∃ xs t, H' D = some (.lst xs) ∧ Paired (PrV K H') xs t ∧ (nms t).Sublist ((srtN ws).take i) ∧ ∀ r ∈ t, 1 ≤ r.2 ∧ r.2 ≤ bigN)
    ⟨⟨none, rfl⟩, sm_bt s1, pool_same s1 hp, g1, [], [], d1, .nil, List.Sublist.refl _, fun r h => (by cases h)⟩ (fun i σ H' _ p => SqL.of p.2.2.2.1) (fun i x σ H2 H3 hi pp y => ?_) fun σ H2 pp => ?_
  · obtain ⟨⟨x0, rfl⟩, b2, p2, g2, xs, t, d2, pd, sub, bd⟩ := pp
    obtain ⟨rfl, ex⟩ := y
    rw [List.getElem?_map] at ex
    obtain ⟨wd, ew, rfl⟩ := Option.map_eq_some_iff.mp ex
    have et : (srtN ws).take (i + 1) = (srtN ws).take i ++ [wd] := by
      rw [List.take_succ, ew]
      rfl
    have tl : t.length ≤ 8 := by
      have h1 := sub.length_le
      rw [nms_len, List.length_take, srtN_len] at h1
      omega
    refine ⟨_, rfl, p, 4, rfl, p2, by decide, by decide, fun r H4 b4 p4 r0 r1 => ⟨_, _, rfl, rfl, _, rfl, ?_⟩⟩
    have d4 := b4 _ _ d2 hpD
    have g4 := b4 _ _ g2 hpq
    have t4 := pool_tv (C := 0) p2 b4
    by_cases c : 0 < r
    · rw [decide_eq_true c]
      refine iteT ⟨_, rfl, .inl ⟨rfl, _, SqL.of d4⟩, _, rfl, _, rfl, rfl, true, congrArg V.bl (decide_eq_true rfl), iteT ⟨_, rfl, p, rfl, p4, fun n H5 b5 p5 n0 n1 => ⟨by show 2 ≤ sizeLine; decide, fun u hu => ?_⟩⟩⟩
      have d5 := b5 _ _ d4 hpD
      have g5 := b5 _ _ g4 hpq
      have s6 : Same H5 (upd H5 u (.tup [.str wd, .int n])) := sm_new hu
      have d6 := s6 _ _ d5
      have t5 := t4.tr ((pool_tv (C := 0) p4 b5).tr (sm_tv s6))
      have xl : xs.length < sizeLine := by
        rw [pd_len pd]
        exact small1000 (by omega)
      refine ⟨D, xs, .ref u, rfl, rfl, d6, xl, ⟨_, rfl⟩, bt_mut ((b2.tr (b4.tr b5)).tr (sm_bt s6)) hD, pool_upd hpD (pool_same s6 p5), by rw [upd_ne hqD]; exact s6 _ _ g5, xs ++ [.ref u], t ++ [(wd, n)], upd_same, ?_, ?_, ?_⟩
      · exact pd_imp (fun _ _ h => stb_pr.tv (tv_ls (C := 0) d6) h) (pd_snoc (pd_imp (fun _ _ h => stb_pr.tv t5 h) pd) ⟨u, rfl, .inl (.inl upd_same)⟩)
      · rw [et, nms, List.map_append]
        exact sub.append (List.Sublist.refl _)
      · intro r0' hr0
        rcases List.mem_append.mp hr0 with z | z
        · exact bd r0' z
        · rw [List.mem_singleton.mp z]
          exact ⟨n0, n1⟩
    · rw [decide_eq_false c]
      exact iteF ⟨⟨_, rfl⟩, b2.tr b4, p4, g4, xs, t, d4, pd_imp (fun _ _ h => stb_pr.tv t4 h) pd, by rw [et]; exact sub.trans (List.sublist_append_left ..), bd⟩
  · obtain ⟨⟨x0, rfl⟩, b2, p2, g2, xs, t, d2, pd, sub, bd⟩ := pp
    rw [List.length_map, List.take_length] at sub
    refine ⟨_, rfl, D, xs, rfl, .inl ⟨SqL.of d2, fun u hu => ?_⟩⟩
    have s3 : Same H2 (upd H2 u (.tup xs)) := sm_new hu
    have tl := sub.length_le
    rw [nms_len, srtN_len] at tl
    refine fin _ t _ (b2.tr (sm_bt s3)) (pool_same s3 p2) ⟨u, xs, rfl, .inl (.inl upd_same), pd_imp (fun _ _ h => stb_pr.sm (C := 0) s3 h) pd⟩ ⟨⟨asc.sublist sub, fun r hr' => W.nm _ (mem_srtN.mp (sub.subset (List.mem_map_of_mem (f := (·.1)) hr'))), fun r hr' => (bd r hr').1, by omega⟩, fun r hr' => ⟨(bd r hr').2, mem_srtN.mp (sub.subset (List.mem_map_of_mem (f := (·.1)) hr'))⟩⟩
def Path (ws : List Str) (rs : Tab) : Prop := rs.length ≤ 8 ∧ ∀ q ∈ rs, q.1 ∈ ws ∧ 1 ≤ q.2 ∧ q.2 ≤ bigN
def spPath : Sp := fun vs H Q _ => ∃ (p l : Addr) (ws : List Str), vs = [.ref p, .ref l, .int 8, .int 0] ∧ PoolAt H p ∧ H l = some (.lst (ws.map V.str)) ∧ Wds ws ∧ ∀ u t H', But p H H' → PoolAt H' p → TupOf K (PrV K) H' u t → Path ws t → Q u H'
theorem wds_at {ws : List Str} {r : Int} (h0 : 0 ≤ r) (h1 : r < (ws.length : Nat)) : ∃ x ∈ ws, atI (ws.map V.str) r = some (.str x) := by
  obtain ⟨n, rfl⟩ : ∃ n : Nat, r = n := ⟨r.toNat, by omega⟩
  have hn : n < ws.length := by omega
  exact ⟨ws[n], List.getElem_mem hn, atI_nat (by simp [hn])⟩
theorem ok_lpath (T : Tx w K mg) : Fn1 P w K mg base 3 "_law_path" ["_law_pool_here", "_law_words_here", "_law_many", "_law_most"] [] (spPath (K := K)) := by
  refine T.E__law_path (fun vs H Q E h => ?_) (fun cdv A outer s H vs Q E hr h => ?_)
  · obtain ⟨_, _, _, rfl, _⟩ := h
    rfl
  obtain ⟨p, l, ws, rfl, hp, hl, W, fin⟩ := h
  have wl := W.len
  have wp : 0 < ws.length := List.length_pos_iff.mpr W.pos
  refine ⟨_, pss_cons (ps_set (i := 4) sc__law_path.nd rfl (Or.inl rfl) (pe_lst pa_nil))
    (pss_cons (ps_for PassesOwn.never rfl (pi_range1 (by rfl) T.b_range (pa_cons (pe_f (ok_ldraw T) (hr.mono (by decide)) (pa_cons (pv 0) (pa_cons (pe_op op_add (pv 2) pe_int) pa_nil))) pa_nil)) (pg_name (i := 5) sc__law_path.nd rfl (Or.inl rfl))
      (pss_cons (ps_set (i := 6) sc__law_path.nd rfl (Or.inl rfl) (pe_ix ix_list (pv 1) (pe_f (ok_ldraw T) (hr.mono (by decide)) (pa_cons (pv 0) (pa_cons (pe_callB call_len_seq (by rfl) T.b_len bt_len (pa_cons (pv 1) pa_nil)) pa_nil))) (fun _ _ => rfl)))
      (pss_one (ps_expr (pe_bm PySem.F.plainAttrs_list PySem.F.slot_list_append PySem.F.type_list_append mt_append (pv 4) (pa_cons (pe_tup (pa_cons (pv 6) (pa_cons (pe_ifExp (pt_cmpR op_eq (pv 3) pe_int (nomark _)) (pe_f (ok_loften T) hr (pa_cons (pv 0) pa_nil)) (pe_op op_add pe_int (pe_f (ok_ldraw T) (hr.mono (by decide)) (pa_cons (pv 0) (pa_cons (pv 3) pa_nil))))) pa_nil))) pa_nil))))))
    (pss_one (ps_ret (pe_callTy call_tuple_of rfl T.b_tuple bt_tuple (pa_cons (pv 4) pa_nil))))), ?_⟩
  refine ⟨Nat.zero_le _, fun D hD => ?_⟩
  have hpD : D ≠ p := by
    obtain ⟨a, b, c, h, _⟩ := hp
    exact (ne_of_none h hD).symm
  have hlp : l ≠ p := by
    obtain ⟨a, b, c, h, _⟩ := hp
    intro e
    rw [e, h] at hl
    cases ws with
    | nil => exact W.pos rfl
    | cons x r =>
      have := (List.cons.inj (HO.lst.inj (Option.some.inj hl))).1
      cases this
  have hlD : l ≠ D := ne_of_none hl hD
  have s1 : Same H (upd H D (.lst [])) := sm_new hD
  refine ⟨_, rfl, _, rfl, _, _, rfl, rfl, p, 9, rfl, pool_same s1 hp, by decide, by decide, fun r H1 b1 p1 r0 r1 => ?_⟩
  obtain ⟨m, rfl⟩ : ∃ m : Nat, r = m := ⟨r.toNat, by omega⟩
  have hm : m ≤ 8 := by omega
  refine ⟨_, rfl, by omega, by omega, ?_⟩
  have d1 : H1 D = some (.lst []) := b1 _ _ upd_same hpD
  refine for_it (walk_range (lo := 0) (n := (m : Int).toNat)) (fun i σ H' => (∃ x y, σ = [some (.ref p), some (.ref l), some (.int 8), some (.int 0), some (.ref D), x, y]) ∧ But p H H' ∧ PoolAt H' p ∧ ∃ xs t, H' D = some (.lst xs) ∧ Paired (PrV K H') xs t ∧ t.length = i ∧ ∀ q ∈ t, q.1 ∈ ws ∧ 1 ≤ q.2 ∧ q.2 ≤ bigN)
    ⟨⟨none, none, rfl⟩, (sm_bt s1).tr b1, p1, [], [], d1, .nil, rfl, fun r h => (by cases h)⟩ (fun i σ H' _ _ => trivial) (fun i x σ H2 H3 hi pp y => ?_) fun σ H2 pp => ?_
  · obtain ⟨⟨x0, y0, rfl⟩, b2, p2, xs, t, d2, pd, tl, bd⟩ := pp
    obtain ⟨rfl, rfl⟩ := y
    have l2 := b2 _ _ hl hlp
    have hi8 : i < 8 := by omega
    refine ⟨_, rfl, _, rfl, _, rfl, l, _, rfl, .inl (SqL.of l2), p, _, rfl, p2, by rw [List.length_map]; omega, by rw [List.length_map]; omega, fun r H4 b4 p4 z0 z1 => ?_⟩
    rw [List.length_map] at z1
    obtain ⟨wd, hw, ea⟩ := wds_at z0 z1
    have l4 := b4 _ _ l2 hlp
    have d4 := b4 _ _ d2 hpD
    have t4 := pool_tv (C := 0) p2 b4
    refine ⟨l, _, r, .str wd, rfl, rfl, SqL.of l4, ea, _, rfl, .inl ⟨rfl, _, SqL.of d4⟩, _, rfl, _, rfl, rfl, true, congrArg V.bl (decide_eq_true rfl), iteT ⟨_, rfl, p, rfl, p4, fun n H5 b5 p5 n0 n1 => ⟨by show 2 ≤ sizeLine; decide, fun u hu => ?_⟩⟩⟩
    have d5 := b5 _ _ d4 hpD
    have s6 : Same H5 (upd H5 u (.tup [.str wd, .int n])) := sm_new hu
    have d6 := s6 _ _ d5
    have t5 := t4.tr ((pool_tv (C := 0) p4 b5).tr (sm_tv s6))
    have xl : xs.length < sizeLine := by
      rw [pd_len pd]
      exact small1000 (by omega)
    refine ⟨D, xs, .ref u, rfl, rfl, d6, xl, ⟨_, _, rfl⟩, bt_mut ((b2.tr (b4.tr b5)).tr (sm_bt s6)) hD, pool_upd hpD (pool_same s6 p5), xs ++ [.ref u], t ++ [(wd, n)], upd_same, ?_, ?_, ?_⟩
    · exact pd_imp (fun _ _ h => stb_pr.tv (tv_ls (C := 0) d6) h) (pd_snoc (pd_imp (fun _ _ h => stb_pr.tv t5 h) pd) ⟨u, rfl, .inl (.inl upd_same)⟩)
    · rw [List.length_append, tl]
      rfl
    · intro r0' hr0
      rcases List.mem_append.mp hr0 with z | z
      · exact bd r0' z
      · rw [List.mem_singleton.mp z]
        exact ⟨hw, n0, n1⟩
  · obtain ⟨⟨x0, y0, rfl⟩, b2, p2, xs, t, d2, pd, tl, bd⟩ := pp
    refine ⟨_, rfl, D, xs, rfl, .inl ⟨SqL.of d2, fun u hu => ?_⟩⟩
    have s3 : Same H2 (upd H2 u (.tup xs)) := sm_new hu
    exact fin _ t _ (b2.tr (sm_bt s3)) (pool_same s3 p2) ⟨u, xs, rfl, .inl (.inl upd_same), pd_imp (fun _ _ h => stb_pr.sm (C := 0) s3 h) pd⟩ ⟨by omega, bd⟩
end
end Kx
set_option Elab.async false
set_option linter.all false
set_option maxRecDepth 100000
set_option maxHeartbeats 4000000
namespace Kx
open PySem PySem.Spec PyProof.Rows L2
/-! ### words -/
def abc : Str := "abcdefghijklmnopqrstuvwxyz"
def nmB (x : Str) : Bool := decide (0 < x.length ∧ x.length < 9) && x.cps.toList.all fun c => decide (c ∈ abc.cps.toList)
theorem nmB_ok {x : Str} (h : nmB x = true) : IsNm x := by
  unfold nmB at h
  rw [Bool.and_eq_true, decide_eq_true_eq, List.all_eq_true] at h
  exact ⟨h.1.1, h.1.2, fun c hc => of_decide_eq_true (h.2 c hc)⟩
def wdB (ws : List Str) : Bool := decide ws.Nodup && (ws.all nmB && decide (ws.length ≤ 8 ∧ ws ≠ []))
theorem wdB_ok {ws : List Str} (h : wdB ws = true) : Wds ws := by
  unfold wdB at h
  rw [Bool.and_eq_true, Bool.and_eq_true, decide_eq_true_eq, List.all_eq_true, decide_eq_true_eq] at h
  exact ⟨h.1, fun x hx => nmB_ok (h.2.1 x hx), h.2.2.1, h.2.2.2⟩
def menu : List Str := ["more", "less", "sum", "few", "many", "gain", "columns", "range", "order", "merge", "a", "b", "c", "x", "y"]
def letter (n : Nat) : Str := ⟨#[97 + n % 26]⟩
def word0 (b k : Nat) : Str := menu.getD ((b + 4 * k) % 15) ""
def word1 (b k : Nat) : Str := Txt.mul (letter (b + 7 * k)) (1 + (k : Int) % 8)
def word2 (x y : Str) (b k : Nat) : Str := (x ++ letter (b + 5 * k)) ++ y
theorem wds0 : ∀ (b : Fin 15) (m : Fin 8), wdB ((List.range (m + 1)).map (word0 b)) = true := by decide +kernel
theorem wds1 : ∀ (b : Fin 15) (m : Fin 8), wdB ((List.range (m + 1)).map (word1 b)) = true := by decide +kernel
theorem abc_at : ∀ n : Fin 26, abc.cps.toList[(n : Nat)]? = some (97 + (n : Nat)) := by decide +kernel
theorem abc_mem : ∀ n : Fin 26, (97 + (n : Nat)) ∈ abc.cps.toList := by decide +kernel
theorem wds2 {x y : Str} {b m : Nat} (hl : x.length + y.length ≤ 7) (hx : ∀ c ∈ x.cps.toList, c ∈ abc.cps.toList) (hy : ∀ c ∈ y.cps.toList, c ∈ abc.cps.toList) (h0 : 1 ≤ m) (h8 : m ≤ 8) : Wds ((List.range m).map (word2 x y b)) := by
  have cps : ∀ k, (word2 x y b k).cps.toList = x.cps.toList ++ [97 + (b + 5 * k) % 26] ++ y.cps.toList := fun k => by
    unfold word2 letter
    rw [PySem.Str.cps_append, PySem.Str.cps_append, Array.toList_append, Array.toList_append]
  refine ⟨?_, fun w hw => ?_, by rw [List.length_map, List.length_range]; exact h8, fun e => ?_⟩
  · rw [List.Nodup, List.pairwise_map]
    refine List.pairwise_iff_getElem.mpr fun i j hi hj hij e => ?_
    rw [List.getElem_range, List.getElem_range] at e
    rw [List.length_range] at hi hj
    have e2 := congrArg (fun s : Str => s.cps.toList) e
    simp only [cps] at e2
    have e3 := List.append_cancel_right e2
    have e4 := List.append_cancel_left e3
    have e5 := (List.cons.inj e4).1
    omega
  · obtain ⟨k, _, rfl⟩ := List.mem_map.mp hw
    have len : (word2 x y b k).length = x.length + 1 + y.length := by
      unfold word2 letter
      rw [PySem.Str.length_append, PySem.Str.length_append]
      rfl
    refine ⟨by omega, by omega, fun c hc => ?_⟩
    rw [cps] at hc
    rcases List.mem_append.mp hc with z | z
    · rcases List.mem_append.mp z with q | q
      · exact hx c q
      · rw [List.mem_singleton.mp q]
        exact abc_mem ⟨(b + 5 * k) % 26, Nat.mod_lt _ (by decide)⟩
    · exact hy c z
  · have := congrArg List.length e
    rw [List.length_map, List.length_range] at this
    simp at this
    omega
theorem atI_abc {n : Nat} : atI abc.cps.toList ((n % 26 : Nat) : Int) = some (97 + n % 26) := atI_nat (abc_at ⟨n % 26, Nat.mod_lt _ (by decide)⟩)
theorem join_cps : ∀ ys : List Str, (Str.join "" ys).cps.toList = (ys.map (·.cps.toList)).flatten
  | [] => rfl
  | [x] => by
    show x.cps.toList = _
    simp
  | x :: y :: r => by
    show (x ++ "" ++ Str.join "" (y :: r)).cps.toList = _
    rw [PySem.Str.cps_append, PySem.Str.cps_append, Array.toList_append, Array.toList_append, join_cps (y :: r), List.map_cons, List.flatten_cons]
    have e : (("" : Str)).cps.toList = [] := by decide +kernel
    rw [e, List.append_nil]
    simp
theorem flat_ones : ∀ (ys : List Str), (∀ y ∈ ys, ∃ c, y = ⟨#[c]⟩ ∧ c ∈ abc.cps.toList) → ((ys.map (·.cps.toList)).flatten).length = ys.length ∧ ∀ c ∈ (ys.map (·.cps.toList)).flatten, c ∈ abc.cps.toList
  | [], _ => ⟨rfl, fun c h => (by cases h)⟩
  | y :: r, h => by
    obtain ⟨c, rfl, hc⟩ := h y (List.mem_cons_self ..)
    have ih := flat_ones r fun y hy => h y (List.mem_cons_of_mem _ hy)
    refine ⟨?_, fun d hd => ?_⟩
    · rw [List.map_cons, List.flatten_cons, List.length_append, ih.1]
      show 1 + r.length = r.length + 1
      omega
    · rw [List.map_cons, List.flatten_cons] at hd
      rcases List.mem_append.mp hd with z | z
      · rw [List.mem_singleton.mp z]
        exact hc
      · exact ih.2 d z
theorem join_ones (ys : List Str) (h : ∀ y ∈ ys, ∃ c, y = ⟨#[c]⟩ ∧ c ∈ abc.cps.toList) : (Txt.join "" ys).length = ys.length ∧ ∀ c ∈ (Txt.join "" ys).cps.toList, c ∈ abc.cps.toList := by
  rw [TL.join_eq]
  have f := flat_ones ys h
  rw [← join_cps, Array.length_toList] at f
  exact f
theorem sum_ones : ∀ (ys : List Str), (∀ y ∈ ys, ∃ c, y = ⟨#[c]⟩ ∧ c ∈ abc.cps.toList) → (ys.map (·.length)).sum = ys.length
  | [], _ => rfl
  | y :: r, h => by
    obtain ⟨c, rfl, hc⟩ := h y (List.mem_cons_self ..)
    rw [List.map_cons, List.sum_cons, sum_ones r fun y hy => h y (List.mem_cons_of_mem _ hy)]
    show 1 + r.length = r.length + 1
    omega
section
variable {P : Program} {w : World} {K : PySem.W.Frag} {mg : Str → Option Value} {base : Heap}
def spWords : Sp := fun vs H Q _ => ∃ (p : Addr) (m : Nat), vs = [.ref p, .int m] ∧ PoolAt H p ∧ 1 ≤ m ∧ m ≤ 8 ∧ ∀ l ws H', But p H H' → PoolAt H' p → l ≠ p → H l = none → H' l = some (.lst (ws.map V.str)) → Wds ws → Q (.ref l) H'
theorem cutS_cps (z : Str) (n : Nat) : (cutS z none (some (n : Int))).cps.toList = z.cps.toList.take n ∧ (cutS z (some (n : Int)) none).cps.toList = z.cps.toList.drop n := by
  constructor
  · show ((z.cps.toList.drop (HT.sIx z.length 0 none)).take (HT.sIx z.length z.length (some (n : Int)) - HT.sIx z.length 0 none)) = _
    rw [HT.sIx_none, HT.sIx_nat, List.drop_zero, Nat.sub_zero, ← List.take_take]
    congr 1
    exact List.take_of_length_le (by rw [Array.length_toList]; exact Nat.le_refl _)
  · show ((z.cps.toList.drop (HT.sIx z.length 0 (some (n : Int)))).take (HT.sIx z.length z.length none - HT.sIx z.length 0 (some (n : Int)))) = _
    rw [HT.sIx_none, HT.sIx_nat]
    rw [List.take_of_length_le (by rw [List.length_drop, Array.length_toList]; exact Nat.le_refl _)]
    rcases Nat.le_total n z.length with q | q
    · rw [Nat.min_eq_left q]
    · rw [Nat.min_eq_right q, List.drop_of_length_le (by rw [Array.length_toList]; exact Nat.le_refl _), List.drop_of_length_le (by rw [Array.length_toList]; exact q)]
theorem ok_lwords (T : Tx w K mg) : Fn1 P w K mg base 2 "_law_words" ["_law_pool_here", "_law_many"] [] spWords := by
  refine T.E__law_words (fun vs H Q E h => ?_) (fun cdv A outer s H vs Q E hr h => ?_)
  · obtain ⟨_, _, rfl, _⟩ := h
    rfl
  obtain ⟨p, m, rfl, hp, m1, m8, fin⟩ := h
  refine ⟨_, pss_cons (ps_set (i := 2) sc__law_words.nd rfl (Or.inr rfl) pe_str)
    (pss_cons (ps_set (i := 3) sc__law_words.nd rfl (Or.inr rfl) (pe_lst (pa_cons pe_str (pa_cons pe_str (pa_cons pe_str (pa_cons pe_str (pa_cons pe_str (pa_cons pe_str (pa_cons pe_str (pa_cons pe_str (pa_cons pe_str (pa_cons pe_str (pa_cons pe_str (pa_cons pe_str (pa_cons pe_str (pa_cons pe_str (pa_cons pe_str pa_nil)))))))))))))))))
    (pss_cons (ps_asg (pe_tup (pa_cons (pe_f (ok_ldraw T) hr (pa_cons (pv 0) (pa_cons pe_int pa_nil))) (pa_cons (pe_f (ok_ldraw T) hr (pa_cons (pv 0) (pa_cons pe_int pa_nil))) pa_nil))) (pg_tup rfl (pgs_cons (pg_name (i := 4) sc__law_words.nd rfl (Or.inl rfl)) (pgs_cons (pg_name (i := 5) sc__law_words.nd rfl (Or.inr rfl)) pgs_nil))))
    (pss_cons (ps_if (pt_cmpR op_eq (pv 4) pe_int (nomark _)) (pss_one (ps_ret (pe_lc (own := [("_law_k", 6)]) (g := gName 6) (tt := tYes) rfl sc__law_words.nd (pi_range1 (by rfl) T.b_range (pa_cons (pv 1) pa_nil)) (blkOk_by (N := n__law_words) (sc := defScope s__law_words) (by decide +kernel))
        (fun _ _ _ _ _ => pg_name (i := 6) sc__law_words.nd rfl (Or.inl rfl)) (fun _ _ _ _ _ => pts_nil) (fun _ _ _ _ _ => pe_ix (r := rIxL K) ix_list (pv 3) (pe_op op_mod (pe_op op_add (pv 5) (pe_op op_mul pe_int (pv 6))) pe_int) (fun _ _ => rfl))))) pss_nil)
    (pss_cons (ps_if (pt_cmpR op_eq (pv 4) pe_int (nomark _)) (pss_one (ps_ret (pe_lc (own := [("_law_k", 6)]) (g := gName 6) (tt := tYes) rfl sc__law_words.nd (pi_range1 (by rfl) T.b_range (pa_cons (pv 1) pa_nil)) (blkOk_by (N := n__law_words) (sc := defScope s__law_words) (by decide +kernel))
        (fun _ _ _ _ _ => pg_name (i := 6) sc__law_words.nd rfl (Or.inl rfl)) (fun _ _ _ _ _ => pts_nil) (fun _ _ _ _ _ => pe_op op_mul_str (pe_ix ix_str (pv 2) (pe_op op_mod (pe_op op_add (pv 5) (pe_op op_mul pe_int (pv 6))) pe_int) (fun _ _ => rfl)) (pe_op op_add pe_int (pe_op op_mod (pv 6) pe_int)))))) pss_nil)
    (pss_cons (ps_set (i := 7) sc__law_words.nd rfl (Or.inr rfl) (pe_join pe_str (pe_lc (own := [("_law_k", 6)]) (g := gName 6) (tt := tYes) rfl sc__law_words.nd (pi_range1 (by rfl) T.b_range (pa_cons (pe_f (ok_ldraw T) hr (pa_cons (pv 0) (pa_cons pe_int pa_nil))) pa_nil)) (blkOk_by (N := n__law_words) (sc := defScope s__law_words) (by decide +kernel))
        (fun _ _ _ _ _ => pg_name (i := 6) sc__law_words.nd rfl (Or.inl rfl)) (fun _ _ _ _ _ => pts_nil) (fun _ _ _ _ _ => pe_ix ix_str (pv 2) (pe_f (ok_ldraw T) hr (pa_cons (pv 0) (pa_cons pe_int pa_nil))) (fun _ _ => rfl)))))
    (pss_cons (ps_set (i := 8) sc__law_words.nd rfl (Or.inr rfl) (pe_f (ok_ldraw T) hr (pa_cons (pv 0) (pa_cons (pe_op op_add (pe_callB call_len_str (by rfl) T.b_len bt_len (pa_cons (pv 7) pa_nil)) pe_int) pa_nil))))
    (pss_one (ps_ret (pe_lc (own := [("_law_k", 6)]) (g := gName 6) (tt := tYes) rfl sc__law_words.nd (pi_range1 (by rfl) T.b_range (pa_cons (pv 1) pa_nil)) (blkOk_by (N := n__law_words) (sc := defScope s__law_words) (by decide +kernel))
        (fun _ _ _ _ _ => pg_name (i := 6) sc__law_words.nd rfl (Or.inl rfl)) (fun _ _ _ _ _ => pts_nil) (fun _ _ _ _ _ => pe_op op_add_str (pe_op op_add_str (pe_slice sl_str (pv 7) po_none (po_some (pv 8))) (pe_ix ix_str (pv 2) (pe_op op_mod (pe_op op_add (pv 5) (pe_op op_mul pe_int (pv 6))) pe_int) (fun _ _ => rfl))) (pe_slice sl_str (pv 7) (po_some (pv 8)) po_none))))))))))), ?_⟩
  refine ⟨by show 15 ≤ sizeLine; decide, fun mn' hmn => ?_⟩
  have hpm : mn' ≠ p := by
    obtain ⟨a, b, c, h, _⟩ := hp
    exact (ne_of_none h hmn).symm
  generalize eH1 : upd H mn' _ = H1
  have s1 : Same H H1 := eH1 ▸ sm_new hmn
  have g1 : H1 mn' = some (.lst (menu.map V.str)) := eH1 ▸ upd_same
  refine ⟨_, rfl, p, 3, rfl, pool_same s1 hp, by decide, by decide, fun way H2 b2 p2 w0 w1 => ⟨_, rfl, p, 15, rfl, p2, by decide, by decide, fun bg H3 b3 p3 z0 z1 => ⟨by show 2 ≤ sizeLine; decide, fun q hq => ?_⟩⟩⟩
  have s4 : Same H3 (upd H3 q (.tup [.int way, .int bg])) := sm_new hq
  generalize eH4 : upd H3 q (.tup [.int way, .int bg]) = H4 at s4
  have hq4 : H4 q = some (.tup [.int way, .int bg]) := eH4 ▸ upd_same
  have p4 := pool_same s4 p3
  have b4 : But p H H4 := (sm_bt s1).tr (b2.tr (b3.tr (sm_bt s4)))
  have g4 : H4 mn' = some (.lst (menu.map V.str)) := s4 _ _ (b3 _ _ (b2 _ _ g1 hpm) hpm)
  obtain ⟨b, rfl⟩ : ∃ b : Nat, bg = b := ⟨bg.toNat, by omega⟩
  have hb : b < 15 := by omega
  refine ⟨q, _, rfl, .inl (.inl hq4), rfl, _, _, rfl, _, _, rfl, rfl, ?_⟩
  have out : ∀ (f : Nat → Str) (D : Addr) (ys : List V) (H5 H6 : Hp), But p H H5 → PoolAt H5 p → H5 D = none → Same H5 H6 → H6 D = some (.lst ys) → Paired (fun v y => v = V.str y) ys ((List.range m).map f) → Wds ((List.range m).map f) → Q (.ref D) H6 := fun f D ys H5 H6 b5 p5 hD s6 hy pd W => by
    have ey : ys = ((List.range m).map f).map V.str := pd_eq (h := V.str) pd
    have hDp : D ≠ p := by
      obtain ⟨a, b, c, h, _⟩ := p5
      exact (ne_of_none h hD).symm
    refine fin D _ H6 (b5.tr (sm_bt s6)) (pool_same s6 p5) hDp ?_ (ey ▸ hy) W
    cases e : H D with
    | none => rfl
    | some o => rw [b5 D o e hDp] at hD; cases hD
  refine ⟨_, rfl, rfl, _, rfl, ?_⟩
  by_cases c0 : way = 0
  · subst c0
    rw [decide_eq_true rfl]
    refine iteT ⟨_, rfl, _, rfl, by omega, by omega, fun D hD => ?_⟩
    refine lc_M (C := 0) (walk_range (lo := 0) (n := (m : Int).toNat)) (List.range m) (word0 b) (fun _ v y => v = .str y) ⟨fun _ h => h⟩ (by simp) (by omega) hD (fun _ _ => trivial) (fun i k v H5 H6 F1 hi s y f1 => ?_) fun ys H5 s hy pd => ?_
    · obtain ⟨rfl, rfl⟩ := y
      obtain ⟨hi', rfl⟩ : ∃ h : i < m, i = k := by
        obtain ⟨h1, h2⟩ := List.getElem?_eq_some_iff.mp hi
        rw [List.getElem_range] at h2
        exact ⟨by simpa using h1, h2⟩
      have en : ((b : Int) + 4 * (0 + (i : Int))) % 15 = (((b + 4 * i) % 15 : Nat) : Int) := by omega
      have hlt : (b + 4 * i) % 15 < menu.length := Nat.mod_lt _ (by decide)
      refine ⟨rfl, _, rfl, _, rfl, _, rfl, _, _, rfl, rfl, .inl (by omega), _, _, rfl, rfl, _, _, rfl, rfl, (show (0 : Int) < 15 by decide), mn', _, _, .str (word0 b i), rfl, rfl, SqL.of (s _ _ g4), ?_, f1 _ _ (Same.refl _) rfl⟩
      rw [en]
      refine atI_nat ?_
      unfold word0
      rw [List.getElem?_map, List.getElem?_eq_getElem hlt]
      simp [hlt]
    · obtain ⟨m', rfl⟩ : ∃ m', m = m' + 1 := ⟨m - 1, by omega⟩
      exact out (word0 b) D ys _ _ b4 p4 hD s hy pd (wdB_ok (wds0 ⟨b, hb⟩ ⟨m', by omega⟩))
  · rw [decide_eq_false (fun e => c0 (by injection e))]
    refine iteF ⟨_, rfl, rfl, _, rfl, ?_⟩
    by_cases c1 : way = 1
    · subst c1
      rw [decide_eq_true rfl]
      refine iteT ⟨_, rfl, _, rfl, by omega, by omega, fun D hD => ?_⟩
      refine lc_M (C := 0) (walk_range (lo := 0) (n := (m : Int).toNat)) (List.range m) (word1 b) (fun _ v y => v = .str y) ⟨fun _ h => h⟩ (by simp) (by omega) hD (fun _ _ => trivial) (fun i k v H5 H6 F1 hi s y f1 => ?_) fun ys H5 s hy pd => ?_
      · obtain ⟨rfl, rfl⟩ := y
        obtain ⟨hi', rfl⟩ : ∃ h : i < m, i = k := by
          obtain ⟨h1, h2⟩ := List.getElem?_eq_some_iff.mp hi
          rw [List.getElem_range] at h2
          exact ⟨by simpa using h1, h2⟩
        have en : ((b : Int) + 7 * (0 + (i : Int))) % 26 = (((b + 7 * i) % 26 : Nat) : Int) := by omega
        refine ⟨rfl, _, rfl, _, rfl, _, rfl, _, _, rfl, rfl, .inl (by omega), _, _, rfl, rfl, _, _, rfl, rfl, (show (0 : Int) < 26 by decide), abc, _, 97 + (b + 7 * i) % 26, rfl, rfl, by decide, ?_, _, rfl, _, _, rfl, rfl, (show (0 : Int) < 8 by decide), _, _, rfl, rfl, letter (b + 7 * i), 1 + (i : Int) % 8, rfl, ?_, by omega, by omega, by show 1 ≤ 1000; decide, f1 _ _ (Same.refl _) rfl⟩
        · rw [en]
          exact atI_abc
        · rw [Int.zero_add]
      · obtain ⟨m', rfl⟩ : ∃ m', m = m' + 1 := ⟨m - 1, by omega⟩
        exact out (word1 b) D ys _ _ b4 p4 hD s hy pd (wdB_ok (wds1 ⟨b, hb⟩ ⟨m', by omega⟩))
    · rw [decide_eq_false (fun e => c1 (by injection e))]
      refine iteF ⟨⟨_, rfl⟩, _, rfl, p, 8, rfl, p4, by decide, by decide, fun r H5 b5 p5 r0 r1 => ⟨_, rfl, by omega, by omega, fun D hD => ?_⟩⟩
      have hDp : D ≠ p := by
        obtain ⟨a, b, c, h, _⟩ := p5
        exact (ne_of_none h hD).symm
      refine lc_it (walk_range (lo := 0) (n := r.toNat)) (fun i H' => But p H5 H' ∧ PoolAt H' p ∧ ∃ ys : List Str, H' D = some (.lst (ys.map V.str)) ∧ ys.length = i ∧ ∀ y ∈ ys, ∃ c, y = ⟨#[c]⟩ ∧ c ∈ abc.cps.toList) ⟨sm_bt (sm_new hD), pool_upd hDp p5, [], upd_same, rfl, fun y h => (by cases h)⟩ (fun _ _ _ _ => trivial) (fun i x H6 H7 hi pp y => ?_) fun H6 pp => ?_
      · obtain ⟨b6, p6, ys, d6, yl, yc⟩ := pp
        obtain ⟨rfl, rfl⟩ := y
        refine ⟨rfl, iteT (B := (But p H5 H7 ∧ PoolAt H7 p ∧ ∃ ys : List Str, H7 D = some (.lst (ys.map V.str)) ∧ ys.length = i + 1 ∧ ∀ y ∈ ys, ∃ c, y = ⟨#[c]⟩ ∧ c ∈ abc.cps.toList)) ⟨_, rfl, _, rfl, p, 26, rfl, p6, by decide, by decide, fun n H8 b8 p8 n0 n1 => ?_⟩⟩
        obtain ⟨n, rfl⟩ : ∃ k : Nat, n = k := ⟨n.toNat, by omega⟩
        have hn : n < 26 := by omega
        have d8 := b8 _ _ d6 hDp
        refine ⟨abc, n, 97 + n, rfl, rfl, by decide, atI_nat (abc_at ⟨n, hn⟩), _, d8, by rw [List.length_map]; exact small1000 (by omega), bt_mut (b6.tr b8) hD, pool_upd hDp p8, ys ++ [⟨#[97 + n]⟩], ?_, by rw [List.length_append, yl]; rfl, fun y hy => ?_⟩
        · rw [upd_same, List.map_append]
          rfl
        · rcases List.mem_append.mp hy with z | z
          · exact yc y z
          · exact ⟨97 + n, List.mem_singleton.mp z, abc_mem ⟨n, hn⟩⟩
      · obtain ⟨b6, p6, ys, d6, yl, yc⟩ := pp
        have hs := join_ones ys yc
        have e1 : (ys.map (·.length)).sum = ys.length := sum_ones ys yc
        refine ⟨"", D, ys, rfl, rfl, .inl (SqL.of d6), by rw [e1]; show ys.length + ys.length * 0 ≤ _; omega, ?_⟩
        generalize Txt.join "" ys = z at hs
        have zl : z.length ≤ 7 := by rw [hs.1]; omega
        have p7 := p6
        refine ⟨_, rfl, _, rfl, z, rfl, Nat.le_trans zl (by decide), _, _, rfl, rfl, p, _, rfl, p6, by omega, by omega, fun at' H7 b7 p7 a0 a1 => ?_⟩
        obtain ⟨at', rfl⟩ : ∃ k : Nat, at' = k := ⟨at'.toNat, by omega⟩
        have b47 : But p H H7 := b4.tr (b5.tr (b6.tr b7))
        refine ⟨_, rfl, _, rfl, by omega, by omega, fun D3 hD3 => ?_⟩
        obtain ⟨t1, t2⟩ := cutS_cps z at'
        refine lc_M (C := 0) (walk_range (lo := 0) (n := (m : Int).toNat)) (List.range m) (word2 (cutS z none (some (at' : Int))) (cutS z (some (at' : Int)) none) b) (fun _ v y => v = .str y) ⟨fun _ h => h⟩ (by simp) (by omega) hD3 (fun _ _ => trivial) (fun i k v H8 H9 F1 hi s y f1 => ?_) fun ys H8 s hy pd => ?_
        · obtain ⟨rfl, rfl⟩ := y
          obtain ⟨hi', rfl⟩ : ∃ h : i < m, i = k := by
            obtain ⟨h1, h2⟩ := List.getElem?_eq_some_iff.mp hi
            rw [List.getElem_range] at h2
            exact ⟨by simpa using h1, h2⟩
          have en : ((b : Int) + 5 * (0 + (i : Int))) % 26 = (((b + 5 * i) % 26 : Nat) : Int) := by omega
          have l1 := cutS_length z none (some (at' : Int))
          have l2 := cutS_length z (some (at' : Int)) none
          have z16 : sizeLine = 16777216 := sizeLine_eq
          refine ⟨rfl, _, rfl, _, rfl, at', rfl, z, rfl, by omega, _, rfl, _, rfl, _, rfl, _, _, rfl, rfl, .inl (by omega), _, _, rfl, rfl, _, _, rfl, rfl, (show (0 : Int) < 26 by decide), abc, _, 97 + (b + 5 * i) % 26, rfl, rfl, by decide, ?_, _, _, rfl, rfl, ?_, _, rfl, _, rfl, at', rfl, ?_⟩
          · rw [en]
            exact atI_abc
          · show _ + 1 ≤ _
            omega
          · dsimp only [tNoPart]
            refine ⟨z, rfl, by omega, _, _, rfl, rfl, ?_, f1 _ _ (Same.refl _) rfl⟩
            rw [PySem.Str.length_append]
            show _ + 1 + _ ≤ _
            omega
        · have lx : (cutS z none (some (at' : Int))).length + (cutS z (some (at' : Int)) none).length ≤ 7 := by
            have e2 : (cutS z none (some (at' : Int))).length = (z.cps.toList.take at').length := by rw [← t1, Array.length_toList]; rfl
            have e3 : (cutS z (some (at' : Int)) none).length = (z.cps.toList.drop at').length := by rw [← t2, Array.length_toList]; rfl
            rw [e2, e3, List.length_take, List.length_drop, Array.length_toList]
            have : z.cps.size = z.length := rfl
            omega
          refine out _ D3 ys H7 _ b47 p7 hD3 s hy pd (wds2 lx (fun c hc => ?_) (fun c hc => ?_) m1 m8)
          · rw [t1] at hc
            exact hs.2 c (List.mem_of_mem_take hc)
          · rw [t2] at hc
            exact hs.2 c (List.mem_of_mem_drop hc)
end
end Kx
set_option Elab.async false
set_option linter.all false
set_option maxRecDepth 100000
set_option maxHeartbeats 4000000
namespace Kx
open PySem PySem.Spec PyProof.Rows L2
/-! ### the law's own states -/
def LRowV (K : PySem.W.Frag) (A : Addr → Prop) (H : Hp) (v : V) : Row → Prop
  | .run x n => PrV K H v (x, n)
  | .sum t => ∃ l u, v = .ref l ∧ H l = some (.lst [u]) ∧ TupOf K (PrV K) H u t ∧ ¬ A l
def LStV (K : PySem.W.Frag) (A : Addr → Prop) (H : Hp) (v : V) (q : Sta) : Prop := ∃ p b l xs, v = .ref p ∧ SqT K H p [b, .ref l] ∧ TupOf K (PrV K) H b q.1 ∧ H l = some (.lst xs) ∧ Paired (LRowV K A H) xs q.2 ∧ ¬ A l
def LActI (K : PySem.W.Frag) (A : Addr → Prop) (H : Hp) (xs : List V) : Act → Prop
  | .arr x n => xs = [.str "arrive", .str x, .int n]
  | .mrg t => ∃ l u, xs = [.str "merge", .ref l] ∧ H l = some (.lst [u]) ∧ TupOf K (PrV K) H u t ∧ ¬ A l
  | .ins i x n => xs = [.str "insert", .int i, .str x, .int n]
  | .rem i => xs = [.str "remove", .int i]
  | .sta t => ∃ l u, xs = [.str "start", .ref l] ∧ H l = some (.lst [u]) ∧ TupOf K (PrV K) H u t ∧ ¬ A l
def LActV (K : PySem.W.Frag) (A : Addr → Prop) (H : Hp) (v : V) (a : Act) : Prop := ∃ p xs, v = .ref p ∧ SqT K H p xs ∧ LActI K A H xs a
section
variable {K : PySem.W.Frag} {C : Addr} {H H' : Hp} {A : Addr → Prop}
theorem one_sv {l : Addr} {u : V} (s : Sv C H H') (h : H l = some (.lst [u])) : H' l = some (.lst [u]) := s _ _ h fun m => by
  unfold Mu at m
  split at m
  · rename_i q
    cases q
  · rename_i q
    cases q
  · exact m
theorem prs_sv {v : V} {t : Tab} (s : Sv C H H') : TupOf K (PrV K) H v t → TupOf K (PrV K) H' v t := (stb_tup (C := C) stb_pr).sv s
theorem lrow_sv {v : V} {r : Row} (s : Sv C H H') (h : LRowV K A H v r) : LRowV K A H' v r := match r, h with
  | .run _ _, h => stb_pr.sv s h
  | .sum _, ⟨l, u, e, h, g, n⟩ => ⟨l, u, e, one_sv s h, prs_sv s g, n⟩
theorem lrow_ref {v : V} {r : Row} (h : LRowV K A H v r) : ∃ a, v = .ref a := match r, h with
  | .run _ _, ⟨t, e, _⟩ => ⟨t, e⟩
  | .sum _, ⟨l, _, e, _⟩ => ⟨l, e⟩
theorem rows_mu {xs : List V} {l : List Row} (p : Paired (LRowV K A H) xs l) : ¬ Mu C (.lst xs) := fun m => by
  unfold Mu at m
  split at m
  · rename_i q
    cases q
    cases p with
    | cons h _ =>
      obtain ⟨a, e⟩ := lrow_ref h
      cases e
  · rename_i q
    cases q
  · exact m
theorem lst_sv' {v : V} {q : Sta} (s : Sv C H H') : LStV K A H v q → LStV K A H' v q := fun ⟨p, b, l, xs, e, h, g, hl, pd, n⟩ => ⟨p, b, l, xs, e, st_tv (sv_tv s) h, prs_sv s g, s _ _ hl (rows_mu pd), pd_imp (fun _ _ => lrow_sv s) pd, n⟩
theorem lact_sv {v : V} {a : Act} (s : Sv C H H') : LActV K A H v a → LActV K A H' v a := fun ⟨p, xs, e, h, i⟩ => ⟨p, xs, e, st_tv (sv_tv s) h, match a, i with
  | .arr _ _, h => h
  | .mrg _, ⟨l, u, e, h, g, n⟩ => ⟨l, u, e, one_sv s h, prs_sv s g, n⟩
  | .ins _ _ _, h => h
  | .rem _, h => h
  | .sta _, ⟨l, u, e, h, g, n⟩ => ⟨l, u, e, one_sv s h, prs_sv s g, n⟩⟩
theorem out_ne {D l : Addr} {o : HO} (hA : A D) (n : ¬ A l) : upd H D o l = H l := upd_ne fun z => n (by rw [z]; exact hA)
/-- what stands aside may change -/
theorem lrow_out {D : Addr} {o : HO} {zs : List V} (hA : A D) (h : H D = some (.lst zs)) {v : V} {r : Row} (x : LRowV K A H v r) : LRowV K A (upd H D o) v r := match r, x with
  | .run _ _, x => stb_pr.tv (tv_ls (C := 0) h) x
  | .sum _, ⟨l, u, e, h1, g, n⟩ => ⟨l, u, e, (out_ne hA n).trans h1, (stb_tup stb_pr).tv (tv_ls (C := 0) h) g, n⟩
theorem lst_out {D : Addr} {o : HO} {zs : List V} (hA : A D) (h : H D = some (.lst zs)) {v : V} {q : Sta} : LStV K A H v q → LStV K A (upd H D o) v q := fun ⟨p, b, l, xs, e, h1, g, hl, pd, n⟩ =>
  ⟨p, b, l, xs, e, st_tv (tv_ls (C := 0) h) h1, (stb_tup stb_pr).tv (tv_ls (C := 0) h) g, (out_ne hA n).trans hl, pd_imp (fun _ _ => lrow_out hA h) pd, n⟩
theorem lact_out {D : Addr} {o : HO} {zs : List V} (hA : A D) (h : H D = some (.lst zs)) {v : V} {a : Act} : LActV K A H v a → LActV K A (upd H D o) v a := fun ⟨p, xs, e, h1, i⟩ => ⟨p, xs, e, st_tv (tv_ls (C := 0) h) h1, match a, i with
  | .arr _ _, h => h
  | .mrg _, ⟨l, u, e, h1, g, n⟩ => ⟨l, u, e, (out_ne hA n).trans h1, (stb_tup stb_pr).tv (tv_ls (C := 0) h) g, n⟩
  | .ins _ _ _, h => h
  | .rem _, h => h
  | .sta _, ⟨l, u, e, h1, g, n⟩ => ⟨l, u, e, (out_ne hA n).trans h1, (stb_tup stb_pr).tv (tv_ls (C := 0) h) g, n⟩⟩
end
section
variable {P : Program} {w : World} {K : PySem.W.Frag} {mg : Str → Option Value} {base : Heap}
def spNow : Sp := fun vs H Q _ => ∃ (k : Nat) (v : V) (q : Sta) (A : Addr → Prop), vs = [.int k, v] ∧ LStV K A H v q ∧ StOk k q ∧ 1 ≤ k ∧ k ≤ 8 ∧ ∀ u H', Same H H' → TupOf K (PrV K) H' u (cur k q) → Q u H'
theorem ok_lnow (T : Tx w K mg) : Fn1 P w K mg base 4 "_law_now" ["_law_width", "_law_state"] [] (spNow (K := K)) := by
  refine T.E__law_now (fun vs H Q E h => ?_) (fun cdv A outer s H vs Q E hr h => ?_)
  · obtain ⟨_, _, _, _, rfl, _⟩ := h
    rfl
  obtain ⟨k, v, q, A0, rfl, ⟨p, b, l, xs, rfl, hp, hb, hl, pd, _⟩, hok, hk, hk8, fin⟩ := h
  have pl := pd_len pd
  refine ⟨_, pss_cons (ps_set (i := 2) sc__law_now.nd rfl (Or.inl rfl) (pe_ix ix_tup (pv 1) pe_int (fun _ _ => rfl)))
    (pss_cons (ps_for PassesOwn.never rfl (pi_list (pe_ix ix_tup (pv 1) pe_int (fun _ _ => rfl))) (pg_name (i := 3) sc__law_now.nd rfl (Or.inl rfl))
      (pss_one (ps_if (pt_val (pe_callB call_isi (by rfl) T.b_isinstance bt_isi (pa_cons (pv 3) (pa_cons (pe_bltn (v := .ty "list") (by rfl) T.b_list bt_list rfl) pa_nil))))
        (pss_one (ps_set (i := 2) sc__law_now.nd rfl (Or.inl rfl) (pe_f (ok_lmerged T) (hr.mono (by decide)) (pa_cons (pv 0) (pa_cons (pv 2) (pa_cons (pe_ix ix_list (pv 3) pe_int (fun _ _ => rfl)) pa_nil))))))
        (pss_one (ps_set (i := 2) sc__law_now.nd rfl (Or.inl rfl) (pe_f (ok_lflat T) (hr.mono (by decide)) (pa_cons (pe_ix ix_tup (pe_f (ok_lrun T) (hr.mono (by decide)) (pa_cons (pv 0) (pa_cons (pe_f (ok_lheld T) (hr.mono (by decide)) (pa_cons (pv 2) pa_nil)) (pa_cons (pe_ix ix_tup (pv 3) pe_int (fun _ _ => rfl)) (pa_cons (pe_ix ix_tup (pv 3) pe_int (fun _ _ => rfl)) pa_nil))))) pe_int (fun _ _ => rfl)) pa_nil)))))))
    (pss_one (ps_ret (pv 2)))), ?_⟩
  refine ⟨_, rfl, p, _, 0, _, rfl, rfl, hp, atI_nat (j := 0) rfl, _, rfl, p, _, 1, _, rfl, rfl, hp, atI_nat (j := 1) rfl, l, rfl, ⟨xs, SqL.of hl⟩, ?_⟩
  refine for_it walk_list (fun i σ H' => Same H H' ∧ ∃ u x, σ = [some (.int k), some (.ref p), some u, x] ∧ TupOf K (PrV K) H' u (cur k (q.1, q.2.take i))) ⟨Same.refl _, b, none, rfl, hb⟩ (fun i σ H' _ z => SqL.of (z.1 _ _ hl)) (fun i x σ H1 H2 hi z y => ?_) fun σ H1 z => ?_
  · obtain ⟨s1, u, x0, rfl, hu⟩ := z
    obtain ⟨rfl, ex⟩ := y
    obtain ⟨r, er, hr'⟩ := pd_get pd ex
    have et : q.2.take (i + 1) = q.2.take i ++ [r] := by
      rw [List.take_succ, er]
      rfl
    have rok := hok.r r (List.mem_of_getElem? er)
    have cok : Cn k (cur k (q.1, q.2.take i)) := cur_cn hk ⟨hok.b, fun r hr => hok.r r (List.mem_of_mem_take hr)⟩
    have hx := lrow_sv (C := 0) (sm_sv s1) hr'
    have tl := cok.len
    have goal1 : ∀ v H3, Same H2 H3 → TupOf K (PrV K) H3 v (step k (cur k (q.1, q.2.take i)) r) → Same H H3 ∧ ∃ u y, ([some (.int k), some (.ref p), some u, some x] : L2.St).set 2 (some v) = [some (.int k), some (.ref p), some u, y] ∧ TupOf K (PrV K) H3 u (cur k (q.1, q.2.take (i + 1))) := fun v H3 s3 hv => ⟨s1.trans s3, v, some x, rfl, by rw [et, cur_snoc]; exact hv⟩
    cases r with
    | run y n =>
      obtain ⟨t, rfl, ht⟩ := hx
      refine ⟨_, rfl, _, _, _, _, false, rfl, .ty "list", ty_tup ht, kit_ty (by decide +kernel), false, rfl, iteF ?_⟩
      refine ⟨_, rfl, _, rfl, u, _, rfl, hu, asc_nd cok.asc, by omega, fun d H3 s3 _ h3 => ?_⟩
      have ht3 := st_sm s3 ht
      refine ⟨_, rfl, t, _, 0, _, rfl, rfl, ht3, atI_nat (j := 0) rfl, _, rfl, t, _, 1, _, rfl, rfl, ht3, atI_nat (j := 1) rfl, k, d, _, y, n, rfl, h3, cok.tk.tb (by omega), hk, rok.2, fun e p2 H4 s4 h4 h5 => ?_⟩
      have tk := arr_tk hk cok.tk (x := y) (n := n) (by have := rok.2; omega)
      refine ⟨p2, _, 0, _, rfl, rfl, .inl (.inl h5), atI_nat (j := 0) rfl, e, _, rfl, h4, by have := tk.len; omega, fun v H5 s5 hv => goal1 v H5 (s3.trans (s4.trans s5)) hv⟩
    | sum t =>
      obtain ⟨l2, u2, rfl, hl2, hu2, _⟩ := hx
      exact ⟨_, rfl, _, _, _, _, true, rfl, .ty "list", .base (.lst hl2), kit_ty (by decide +kernel), true, rfl, iteT ⟨_, rfl, _, rfl, _, rfl, l2, _, 0, _, rfl, rfl, SqL.of hl2, atI_nat (j := 0) rfl, k, u, u2, _, t, rfl, hu, hu2, cok, rok, hk8, goal1⟩⟩
  · obtain ⟨s1, u, x0, rfl, hu⟩ := z
    rw [pl, List.take_length] at hu
    exact ⟨_, rfl, fin u _ s1 hu⟩
end
end Kx
set_option Elab.async false
set_option linter.all false
set_option maxRecDepth 100000
set_option maxHeartbeats 4000000
namespace Kx
open PySem PySem.Spec PyProof.Rows L2
theorem cutV_upto (xs : List V) (i : Nat) : cutV xs none (some (i : Int)) = xs.take i := by
  unfold cutV
  rw [HT.sIx_none, HT.sIx_nat, List.drop_zero, Nat.sub_zero, ← List.take_take, List.take_length]
theorem cutV_from (xs : List V) (i : Nat) : cutV xs (some (i : Int)) none = xs.drop i := by
  unfold cutV
  rw [HT.sIx_none, HT.sIx_nat, List.take_of_length_le (by rw [List.length_drop]; exact Nat.le_refl _)]
  rcases Nat.le_total i xs.length with z | z
  · rw [Nat.min_eq_left z]
  · rw [Nat.min_eq_right z, List.drop_length, List.drop_of_length_le z]
section
variable {P : Program} {w : World} {K : PySem.W.Frag} {mg : Str → Option Value} {base : Heap}
def spDone : Sp := fun vs H Q _ => ∃ (sv av : V) (q : Sta) (a : Act) (k : Nat) (A : Addr → Prop), vs = [sv, av] ∧ LStV K A H sv q ∧ LActV K A H av a ∧ ActOk k q.2.length a ∧ q.2.length ≤ 100 ∧ (∀ b, A b → H b ≠ none) ∧ ∀ u H', Same H H' → LStV K A H' u (aft q a) → Q u H'
theorem ok_ldone (T : Tx w K mg) : Fn1 P w K mg base 1 "_law_done" ["_law_state", "_law_plain_here"] [] (spDone (K := K)) := by
  refine T.E__law_done (fun vs H Q E h => ?_) (fun cdv A outer s H vs Q E hr h => ?_)
  · obtain ⟨_, _, _, _, _, _, rfl, _⟩ := h
    rfl
  obtain ⟨sv, av, q, a, k, A0, rfl, ⟨ps, b, l, xs, rfl, hps, hb, hl, pd, nl⟩, ⟨p, ys, rfl, hp, hi⟩, hok, hz, hA, fin⟩ := h
  have fr : ∀ {H1 : Hp} {z : Addr}, Same H H1 → H1 z = none → ¬ A0 z := fun s h c => hA _ c (s.free h)
  have pl := pd_len pd
  refine ⟨_, pss_cons (ps_asg (pv 0) (pg_tup rfl (pgs_cons (pg_name (i := 2) sc__law_done.nd rfl (Or.inl rfl)) (pgs_cons (pg_name (i := 3) sc__law_done.nd rfl (Or.inl rfl)) pgs_nil))))
    (pss_cons (ps_if (pt_cmpR op_eq (pe_ix ix_tup (pv 1) pe_int (fun _ _ => rfl)) pe_str (nomark _)) (pss_one (ps_ret (pe_tup (pa_cons (pe_ix ix_list (pe_ix ix_tup (pv 1) pe_int (fun _ _ => rfl)) pe_int (fun _ _ => rfl)) (pa_cons (pv 3) pa_nil))))) pss_nil)
    (pss_cons (ps_if (pt_cmpR op_eq (pe_ix ix_tup (pv 1) pe_int (fun _ _ => rfl)) pe_str (nomark _)) (pss_one (ps_ret (pe_tup (pa_cons (pv 2) (pa_cons (pe_op op_cat (pe_slice sl_list (pv 3) po_none (po_some (pe_ix ix_tup (pv 1) pe_int (fun _ _ => rfl)))) (pe_slice sl_list (pv 3) (po_some (pe_op op_add (pe_ix ix_tup (pv 1) pe_int (fun _ _ => rfl)) pe_int)) po_none)) pa_nil))))) pss_nil)
    (pss_cons (ps_if (pt_cmpR op_eq (pe_ix ix_tup (pv 1) pe_int (fun _ _ => rfl)) pe_str (nomark _)) (pss_one (ps_ret (pe_tup (pa_cons (pv 2) (pa_cons (pe_op op_cat (pe_op op_cat (pe_slice sl_list (pv 3) po_none (po_some (pe_ix ix_tup (pv 1) pe_int (fun _ _ => rfl)))) (pe_lst (pa_cons (pe_slice sl_tupA (pv 1) (po_some pe_int) po_none) pa_nil))) (pe_slice sl_list (pv 3) (po_some (pe_ix ix_tup (pv 1) pe_int (fun _ _ => rfl))) po_none)) pa_nil))))) pss_nil)
    (pss_one (ps_ret (pe_tup (pa_cons (pv 2) (pa_cons (pe_op op_cat (pv 3) (pe_lst (pa_cons (pe_ifExp (pt_cmpR op_eq (pe_ix ix_tup (pv 1) pe_int (fun _ _ => rfl)) pe_str (nomark _)) (pe_ix ix_tup (pv 1) pe_int (fun _ _ => rfl)) (pe_slice sl_tupA (pv 1) (po_some pe_int) po_none)) pa_nil))) pa_nil)))))))), ?_⟩
  have parts : (∃ t l2 u, ys = [.str "start", .ref l2] ∧ H l2 = some (.lst [u]) ∧ TupOf K (PrV K) H u t ∧ ¬ A0 l2 ∧ aft q a = (t, q.2)) ∨
      (∃ i : Nat, ys = [.str "remove", .int i] ∧ i < q.2.length ∧ aft q a = (q.1, q.2.take i ++ q.2.drop (i + 1))) ∨
      (∃ (i : Nat) (x : Str) (n : Int), ys = [.str "insert", .int i, .str x, .int n] ∧ i ≤ q.2.length ∧ aft q a = (q.1, q.2.take i ++ [.run x n] ++ q.2.drop i)) ∨
      (∃ t l2 u, ys = [.str "merge", .ref l2] ∧ H l2 = some (.lst [u]) ∧ TupOf K (PrV K) H u t ∧ ¬ A0 l2 ∧ aft q a = (q.1, q.2 ++ [.sum t])) ∨
      ∃ (x : Str) (n : Int), ys = [.str "arrive", .str x, .int n] ∧ aft q a = (q.1, q.2 ++ [.run x n]) := by
    clear fin hp hps hb hl pd pl
    cases a with
    | arr x n => exact .inr (.inr (.inr (.inr ⟨x, n, hi, rfl⟩)))
    | mrg t =>
      obtain ⟨l2, u, e, h, g, n⟩ := hi
      exact .inr (.inr (.inr (.inl ⟨t, l2, u, e, h, g, n, rfl⟩)))
    | ins i x n => exact .inr (.inr (.inl ⟨i, x, n, hi, hok.1, rfl⟩))
    | rem i => exact .inr (.inl ⟨i, hi, hok, rfl⟩)
    | sta t =>
      obtain ⟨l2, u, e, h, g, n⟩ := hi
      exact .inl ⟨t, l2, u, e, h, g, n, rfl⟩
  refine ⟨_, rfl, ps, _, rfl, hps, rfl, _, _, rfl, _, _, rfl, rfl, ?_⟩
  have ret : ∀ (u b' : V) (q' : Sta) (l' : Addr) (xs' : List V) (H1 : Hp), Same H H1 → TupOf K (PrV K) H1 b' q'.1 → H1 l' = some (.lst xs') → Paired (LRowV K A0 H1) xs' q'.2 → ¬ A0 l' → aft q a = q' → ([b', .ref l'] : List V).length ≤ sizeLine ∧ ∀ p2, H1 p2 = none → Q (.ref p2) (upd H1 p2 (.tup [b', .ref l'])) := fun u b' q' l' xs' H1 s1 g1 g2 g3 gn e => ⟨by show 2 ≤ sizeLine; decide, fun p2 hp2 => by
    have s2 : Same H1 (upd H1 p2 (.tup [b', .ref l'])) := sm_new hp2
    have sv2 := sm_sv (C := 0) s2
    exact fin _ _ (s1.trans s2) (e ▸ ⟨p2, b', l', xs', rfl, .inl (.inl upd_same), prs_sv sv2 g1, s2 _ _ g2, pd_imp (fun _ _ => lrow_sv sv2) g3, gn⟩)⟩
  rcases parts with ⟨t, l2, u, er, hl2, hu, n2, ef⟩ | ⟨i, er, hil, ef⟩ | ⟨i, x, n, er, hil, ef⟩ | ⟨t, l2, u, er, hl2, hu, n2, ef⟩ | ⟨x, n, er, ef⟩
  · rw [er] at hp
    refine ⟨_, rfl, p, _, 0, _, rfl, rfl, hp, atI_nat (j := 0) rfl, rfl, _, w_eq (b := true) (by decide +kernel), iteT ⟨_, rfl, p, _, 1, _, rfl, rfl, hp, atI_nat (j := 1) rfl, l2, _, 0, _, rfl, rfl, SqL.of hl2, atI_nat (j := 0) rfl, _, rfl, ?_⟩⟩
    exact ret (.ref 0) u (t, q.2) l xs H (Same.refl _) hu hl pd nl ef
  · rw [er] at hp
    refine ⟨_, rfl, p, _, 0, _, rfl, rfl, hp, atI_nat (j := 0) rfl, rfl, _, w_eq (b := false) (by decide +kernel), iteF ⟨_, rfl, p, _, 0, _, rfl, rfl, hp, atI_nat (j := 0) rfl, rfl, _, w_eq (b := true) (by decide +kernel), iteT ?_⟩⟩
    refine ⟨_, rfl, _, rfl, _, rfl, p, _, 1, _, rfl, rfl, hp, atI_nat (j := 1) rfl, (i : Int), rfl, l, xs, rfl, SqL.of hl, fun q1 hq1 => ?_⟩
    rw [cutV_upto]
    have s1 : Same H (upd H q1 (.lst (xs.take i))) := sm_new hq1
    refine ⟨_, rfl, _, rfl, p, _, 1, _, rfl, rfl, st_sm s1 hp, atI_nat (j := 1) rfl, _, _, rfl, rfl, _, rfl, ?_⟩
    dsimp only [tNoPart]
    refine ⟨l, xs, rfl, SqL.of (s1 _ _ hl), fun q2 hq2 => ?_⟩
    rw [show ((i : Int) + 1) = ((i + 1 : Nat) : Int) from rfl, cutV_from]
    have s2 : Same (upd H q1 (.lst (xs.take i))) (upd (upd H q1 (.lst (xs.take i))) q2 (.lst (xs.drop (i + 1)))) := sm_new hq2
    refine ⟨q1, q2, _, _, rfl, rfl, s2 _ _ upd_same, upd_same, by rw [List.length_take, List.length_drop]; exact Nat.le_trans (show _ ≤ 1000 by omega) (by decide), fun q3 hq3 => ?_⟩
    have s3 := s1.trans (s2.trans (sm_new (o := .lst (xs.take i ++ xs.drop (i + 1))) hq3))
    have sv3 := sm_sv (C := 0) s3
    exact ret (.ref 0) b (q.1, q.2.take i ++ q.2.drop (i + 1)) q3 _ _ s3 (prs_sv sv3 hb) upd_same (pd_imp (fun _ _ => lrow_sv sv3) (pd_app (pd_take i pd) (pd_drop (i + 1) pd))) (fr (s1.trans s2) hq3) ef
  · rw [er] at hp
    refine ⟨_, rfl, p, _, 0, _, rfl, rfl, hp, atI_nat (j := 0) rfl, rfl, _, w_eq (b := false) (by decide +kernel), iteF ⟨_, rfl, p, _, 0, _, rfl, rfl, hp, atI_nat (j := 0) rfl, rfl, _, w_eq (b := false) (by decide +kernel), iteF ⟨_, rfl, p, _, 0, _, rfl, rfl, hp, atI_nat (j := 0) rfl, rfl, _, w_eq (b := true) (by decide +kernel), iteT ?_⟩⟩⟩
    refine ⟨_, rfl, _, rfl, _, rfl, p, _, 1, _, rfl, rfl, hp, atI_nat (j := 1) rfl, (i : Int), rfl, l, xs, rfl, SqL.of hl, fun q1 hq1 => ?_⟩
    rw [cutV_upto]
    have s1 : Same H (upd H q1 (.lst (xs.take i))) := sm_new hq1
    refine ⟨_, rfl, 2, rfl, ?_⟩
    dsimp only [tNoPart]
    refine ⟨p, _, rfl, st_sm s1 hp, fun z => absurd z.1 (show ¬ HT.sIx 4 0 (some 2) = 0 by decide), fun _ q2 hq2 => ⟨by show 1 ≤ sizeLine; decide, fun q3 hq3 => ?_⟩⟩
    rw [show cutV [V.str "insert", .int (i : Int), .str x, .int n] (some 2) none = [.str x, .int n] from rfl] at hq3 ⊢
    generalize eH2 : upd (upd H q1 (.lst (xs.take i))) q2 (.tup [.str x, .int n]) = H2 at hq3 ⊢
    have s2 : Same (upd H q1 (.lst (xs.take i))) H2 := eH2 ▸ sm_new hq2
    have g2 : H2 q2 = some (.tup [.str x, .int n]) := eH2 ▸ upd_same
    have s3 : Same H2 (upd H2 q3 (.lst [.ref q2])) := sm_new hq3
    refine ⟨q1, q3, _, _, rfl, rfl, s3 _ _ (s2 _ _ upd_same), upd_same, by rw [List.length_take]; exact Nat.le_trans (show _ + 1 ≤ 1000 by omega) (by decide), fun q4 hq4 => ?_⟩
    generalize eH4 : upd (upd H2 q3 (.lst [.ref q2])) q4 (.lst (xs.take i ++ [.ref q2])) = H4
    have s4 : Same (upd H2 q3 (.lst [.ref q2])) H4 := eH4 ▸ sm_new hq4
    have g4 : H4 q4 = some (.lst (xs.take i ++ [.ref q2])) := eH4 ▸ upd_same
    have s04 := s1.trans (s2.trans (s3.trans s4))
    refine ⟨_, rfl, _, rfl, p, _, 1, _, rfl, rfl, st_sm s04 hp, atI_nat (j := 1) rfl, (i : Int), rfl, ?_⟩
    dsimp only [tNoPart]
    refine ⟨l, xs, rfl, SqL.of (s04 _ _ hl), fun q5 hq5 => ?_⟩
    rw [cutV_from]
    have s5 : Same H4 (upd H4 q5 (.lst (xs.drop i))) := sm_new hq5
    refine ⟨q4, q5, _, _, rfl, rfl, s5 _ _ g4, upd_same, by rw [List.length_append, List.length_take, List.length_drop]; exact Nat.le_trans (show _ + 1 + _ ≤ 1000 by omega) (by decide), fun q6 hq6 => ?_⟩
    have s6 : Same H _ := s04.trans (s5.trans (sm_new (o := .lst (xs.take i ++ [.ref q2] ++ xs.drop i)) hq6))
    have sv6 := sm_sv (C := 0) s6
    have g6 := (s3.trans (s4.trans (s5.trans (sm_new (o := .lst (xs.take i ++ [.ref q2] ++ xs.drop i)) hq6)))) _ _ g2
    refine ret (.ref 0) b (q.1, q.2.take i ++ [.run x n] ++ q.2.drop i) q6 _ _ s6 (prs_sv sv6 hb) upd_same ?_ (fr (s04.trans s5) hq6) ef
    exact pd_app (pd_app (pd_imp (fun _ _ => lrow_sv sv6) (pd_take i pd)) (.cons (show LRowV K A0 _ (.ref q2) (.run x n) from ⟨q2, rfl, .inl (.inl g6)⟩) .nil)) (pd_imp (fun _ _ => lrow_sv sv6) (pd_drop i pd))
  · rw [er] at hp
    refine ⟨_, rfl, p, _, 0, _, rfl, rfl, hp, atI_nat (j := 0) rfl, rfl, _, w_eq (b := false) (by decide +kernel), iteF ⟨_, rfl, p, _, 0, _, rfl, rfl, hp, atI_nat (j := 0) rfl, rfl, _, w_eq (b := false) (by decide +kernel), iteF ⟨_, rfl, p, _, 0, _, rfl, rfl, hp, atI_nat (j := 0) rfl, rfl, _, w_eq (b := false) (by decide +kernel), iteF ?_⟩⟩⟩
    refine ⟨_, rfl, _, rfl, _, rfl, p, _, 0, _, rfl, rfl, hp, atI_nat (j := 0) rfl, rfl, _, w_eq (b := true) (by decide +kernel), iteT ⟨_, rfl, p, _, 1, _, rfl, rfl, hp, atI_nat (j := 1) rfl, by show 1 ≤ sizeLine; decide, fun q3 hq3 => ?_⟩⟩
    have s3 : Same H (upd H q3 (.lst [.ref l2])) := sm_new hq3
    refine ⟨l, q3, xs, _, rfl, rfl, s3 _ _ hl, upd_same, Nat.le_trans (show xs.length + 1 ≤ 1000 by omega) (by decide), fun q6 hq6 => ?_⟩
    have s6 : Same H _ := s3.trans (sm_new (o := .lst (xs ++ [.ref l2])) hq6)
    have sv6 := sm_sv (C := 0) s6
    exact ret (.ref 0) b (q.1, q.2 ++ [.sum t]) q6 _ _ s6 (prs_sv sv6 hb) upd_same (pd_app (pd_imp (fun _ _ => lrow_sv sv6) pd) (.cons (show LRowV K A0 _ (.ref l2) (.sum t) from ⟨l2, u, rfl, s6 _ _ hl2, prs_sv sv6 hu, n2⟩) .nil)) (fr s3 hq6) ef
  · rw [er] at hp
    refine ⟨_, rfl, p, _, 0, _, rfl, rfl, hp, atI_nat (j := 0) rfl, rfl, _, w_eq (b := false) (by decide +kernel), iteF ⟨_, rfl, p, _, 0, _, rfl, rfl, hp, atI_nat (j := 0) rfl, rfl, _, w_eq (b := false) (by decide +kernel), iteF ⟨_, rfl, p, _, 0, _, rfl, rfl, hp, atI_nat (j := 0) rfl, rfl, _, w_eq (b := false) (by decide +kernel), iteF ?_⟩⟩⟩
    refine ⟨_, rfl, _, rfl, _, rfl, p, _, 0, _, rfl, rfl, hp, atI_nat (j := 0) rfl, rfl, _, w_eq (b := false) (by decide +kernel), iteF ⟨_, rfl, 1, rfl, ?_⟩⟩
    dsimp only [tNoPart]
    refine ⟨p, _, rfl, hp, fun z => absurd z.1 (show ¬ HT.sIx 3 0 (some 1) = 0 by decide), fun _ q2 hq2 => ⟨by show 1 ≤ sizeLine; decide, fun q3 hq3 => ?_⟩⟩
    rw [show cutV [V.str "arrive", .str x, .int n] (some 1) none = [.str x, .int n] from rfl] at hq3 ⊢
    generalize eH2 : upd H q2 (.tup [.str x, .int n]) = H2 at hq3 ⊢
    have s2 : Same H H2 := eH2 ▸ sm_new hq2
    have g2 : H2 q2 = some (.tup [.str x, .int n]) := eH2 ▸ upd_same
    have s3 : Same H2 (upd H2 q3 (.lst [.ref q2])) := sm_new hq3
    refine ⟨l, q3, xs, _, rfl, rfl, s3 _ _ (s2 _ _ hl), upd_same, Nat.le_trans (show xs.length + 1 ≤ 1000 by omega) (by decide), fun q6 hq6 => ?_⟩
    have s36 : Same H2 _ := s3.trans (sm_new (o := .lst (xs ++ [.ref q2])) hq6)
    have s6 := s2.trans s36
    have sv6 := sm_sv (C := 0) s6
    exact ret (.ref 0) b (q.1, q.2 ++ [.run x n]) q6 _ _ s6 (prs_sv sv6 hb) upd_same (pd_app (pd_imp (fun _ _ => lrow_sv sv6) pd) (.cons (show LRowV K A0 _ (.ref q2) (.run x n) from ⟨q2, rfl, .inl (.inl (s36 _ _ g2))⟩) .nil)) (fr (s2.trans s3) hq6) ef
end
end Kx
set_option Elab.async false
set_option linter.all false
set_option maxRecDepth 100000
set_option maxHeartbeats 4000000
namespace Kx
open PySem PySem.Spec PyProof.Rows L2
def BagBd (ws : List Str) (t : Tab) : Prop := ∀ q ∈ t, q.2 ≤ bigN ∧ q.1 ∈ ws
def ActBd (ws : List Str) : Act → Prop
  | .arr x n => x ∈ ws ∧ n ≤ bigN
  | .mrg t => BagBd ws t
  | .ins _ x n => x ∈ ws ∧ n ≤ bigN
  | .rem _ => True
  | .sta t => BagBd ws t
theorem bag_take {ws : List Str} {t : Tab} (h : Bag ws t) (k : Nat) : Cn k (t.take k) ∧ BagBd ws (t.take k) := by
  have sb : (nms (t.take k)).Sublist (nms t) := (List.take_sublist k t).map (·.1)
  exact ⟨⟨h.1.asc.sublist sb, fun p hp => h.1.nm p (List.mem_of_mem_take hp), fun p hp => h.1.ge p (List.mem_of_mem_take hp), List.length_take_le ..⟩, fun q hq => h.2 q (List.mem_of_mem_take hq)⟩
theorem wds_ne {H : Hp} {p l : Addr} {ws : List Str} (W : Wds ws) (hp : PoolAt H p) (hl : H l = some (.lst (ws.map V.str))) : l ≠ p := fun e => by
  obtain ⟨a, b, c, h, _⟩ := hp
  rw [e, h] at hl
  cases ws with
  | nil => exact W.pos rfl
  | cons x r =>
    have := (List.cons.inj (HO.lst.inj (Option.some.inj hl))).1
    cases this
theorem pcond {σ : L2.St} {H : Hp} {way : Int} {pl m : Nat} {F : Bool → Hp → Prop} (e4 : σ[4]? = some (some (.int way))) (e6 : σ[6]? = some (some (.int pl))) (e3 : σ[3]? = some (some (.int m))) (h : F (decide (way = 2 ∧ pl < m)) H) :
    tAnd (tTest (tOp rEq (tVar 4) (tC (.int 2)))) (tTest (tOp (rI0 fun i j => .bl (decide (i < j))) (tVar 6) (tVar 3))) σ H F := by
  refine ⟨_, e4, rfl, _, rfl, ?_⟩
  by_cases c : way = 2
  · subst c
    rw [decide_eq_true rfl]
    refine iteT ⟨_, e6, _, e3, _, _, rfl, rfl, _, rfl, ?_⟩
    have e : decide ((pl : Int) < (m : Int)) = decide ((2 : Int) = 2 ∧ pl < m) := decide_eq_decide.mpr ⟨fun z => ⟨rfl, by omega⟩, fun z => by omega⟩
    rw [e]
    exact h
  · rw [decide_eq_false (fun e => c (by injection e))]
    rw [decide_eq_false (fun z => c z.1)] at h
    exact iteF h
section
variable {P : Program} {w : World} {K : PySem.W.Frag} {mg : Str → Option Value} {base : Heap}
def spPlain : Sp := fun vs H Q _ => ∃ (p l : Addr) (k m : Nat) (ws : List Str) (A : Addr → Prop), vs = [.ref p, .int k, .ref l, .int m] ∧ PoolAt H p ∧ H l = some (.lst (ws.map V.str)) ∧ Wds ws ∧ m ≤ 50 ∧ (∀ b, A b → H b ≠ none) ∧
  ∀ u a H', But p H H' → PoolAt H' p → LActV K A H' u a → ActOk k m a → ActBd ws a → Q u H'
theorem ok_lplain (T : Tx w K mg) : Fn1 P w K mg base 4 "_law_plain" ["_law_pool_here", "_law_width", "_law_words_here", "_law_size"] [] (spPlain (K := K)) := by
  refine T.E__law_plain (fun vs H Q E h => ?_) (fun cdv A outer s H vs Q E hr h => ?_)
  · obtain ⟨_, _, _, _, _, _, rfl, _⟩ := h
    rfl
  obtain ⟨p, l, k, m, ws, A0, rfl, hp, hl, W, hm, hA, fin⟩ := h
  have fr : ∀ {H1 : Hp} {z : Addr}, But p H H1 → PoolAt H1 p → H1 z = none → ¬ A0 z := fun {H1 z} b ⟨x1, x2, x3, x4, _⟩ h c => by
    cases e : H z with
    | none => exact hA _ c e
    | some o =>
      have zp : z ≠ p := fun e2 => by rw [e2, x4] at h; cases h
      rw [b _ _ e zp] at h
      cases h
  have wl := W.len
  have wp : 0 < ws.length := List.length_pos_iff.mpr W.pos
  have hlp := wds_ne W hp hl
  refine ⟨_, pss_cons (ps_par3 (i := 4) (j := 5) (l := 6) rfl sc__law_plain.nd rfl rfl rfl (by decide) (by decide) (by decide) rfl rfl rfl (pa_cons (pe_f (ok_ldraw T) (hr.mono (by decide)) (pa_cons (pv 0) (pa_cons pe_int pa_nil))) (pa_cons (pe_ix ix_list (pv 2) (pe_f (ok_ldraw T) (hr.mono (by decide)) (pa_cons (pv 0) (pa_cons (pe_callB call_len_seq rfl T.b_len bt_len (pa_cons (pv 2) pa_nil)) pa_nil))) (fun _ _ => rfl)) (pa_cons (pe_f (ok_ldraw T) (hr.mono (by decide)) (pa_cons (pv 0) (pa_cons (pe_op op_add (pv 3) pe_int) pa_nil))) pa_nil))) (by kernel_rfl))
    (pss_cons (ps_if (pt_cmpR op_lt (pv 4) pe_int (nomark _)) (pss_one (ps_ret (pe_tup (pa_cons (pe_ix ix_list (pe_lst (pa_cons pe_str (pa_cons pe_str pa_nil))) (pv 4) (fun _ _ => rfl)) (pa_cons (pe_lst (pa_cons (pe_slice sl_tupA (pe_f (ok_lbag T) hr (pa_cons (pv 0) (pa_cons (pv 2) (pa_cons pe_int pa_nil)))) po_none (po_some (pv 1))) pa_nil)) pa_nil))))) pss_nil)
    (pss_cons (ps_if (pw_and (pt_cmpR op_eq (pv 4) pe_int (nomark _)) (pw_and1 (pt_cmpR op_lt (pv 6) (pv 3) (nomark _)))).pt (pss_one (ps_ret (pe_tup (pa_cons pe_str (pa_cons (pv 6) pa_nil))))) pss_nil)
    (pss_one (ps_ret (pe_ix ix_list (pe_lst (pa_cons (pe_tup (pa_cons pe_str (pa_cons (pv 5) (pa_cons (pe_f (ok_loften T) (hr.mono (by decide)) (pa_cons (pv 0) pa_nil)) pa_nil)))) (pa_cons (pe_tup (pa_cons pe_str (pa_cons (pv 6) (pa_cons (pv 5) (pa_cons (pe_f (ok_loften T) (hr.mono (by decide)) (pa_cons (pv 0) pa_nil)) pa_nil))))) pa_nil))) (pe_op op_and (pv 4) pe_int) (fun _ _ => rfl)))))), ?_⟩
  refine ⟨_, rfl, p, 8, rfl, hp, by decide, by decide, fun way H1 b1 p1 w0 w1 => ?_⟩
  have l1 := b1 _ _ hl hlp
  refine ⟨_, rfl, _, rfl, _, rfl, l, _, rfl, .inl (SqL.of l1), p, _, rfl, p1, by rw [List.length_map]; omega, by rw [List.length_map]; omega, fun r H2 b2 p2 z0 z1 => ?_⟩
  rw [List.length_map] at z1
  obtain ⟨wd, hw, ea⟩ := wds_at z0 z1
  have l2 := b2 _ _ l1 hlp
  refine ⟨l, _, r, .str wd, rfl, rfl, SqL.of l2, ea, _, rfl, _, rfl, _, _, rfl, rfl, p, _, rfl, p2, by omega, by omega, fun pl H3 b3 p3 y0 y1 => ⟨_, _, _, rfl, ?_⟩⟩
  obtain ⟨pl, rfl⟩ : ∃ n : Nat, pl = n := ⟨pl.toNat, by omega⟩
  have b03 : But p H H3 := b1.tr (b2.tr b3)
  have l3 := b3 _ _ l2 hlp
  refine ⟨_, rfl, way, 2, rfl, rfl, _, rfl, ?_⟩
  by_cases c : way < 2
  · rw [decide_eq_true c]
    refine iteT ⟨by show 2 ≤ sizeLine; decide, fun q hq => ⟨_, rfl, ?_⟩⟩
    have s4 : Same H3 (upd H3 q (.lst [.str "start", .str "merge"])) := sm_new hq
    have p4 := pool_same s4 p3
    have fin2 : ∀ (wo : Str) (mk : Tab → Act), (∀ (H' : Hp) (l2 : Addr) (u : V) (t : Tab), H' l2 = some (.lst [u]) → TupOf K (PrV K) H' u t → ¬ A0 l2 → LActI K A0 H' [.str wo, .ref l2] (mk t)) → (∀ t, Cn k t → ActOk k m (mk t)) → (∀ t, BagBd ws t → ActBd ws (mk t)) →
        ∀ (u : V) (t : Tab) (H5 : Hp), But p H H5 → PoolAt H5 p → TupOf K (PrV K) H5 u t → Cn k t → BagBd ws t → ([u] : List V).length ≤ sizeLine ∧ ∀ l2, H5 l2 = none → (([.str wo, .ref l2] : List V).length ≤ sizeLine ∧ ∀ r2, upd H5 l2 (.lst [u]) r2 = none → Q (.ref r2) (upd (upd H5 l2 (.lst [u])) r2 (.tup [.str wo, .ref l2]))) := fun wo mk h1 h2 h3 u t H5 b5 p5 hu cn bd => ⟨by show 1 ≤ sizeLine; decide, fun l2 hl2 => ⟨by show 2 ≤ sizeLine; decide, fun r2 hr2 => by
      have s6 : Same H5 (upd H5 l2 (.lst [u])) := sm_new hl2
      have s7 : Same (upd H5 l2 (.lst [u])) (upd (upd H5 l2 (.lst [u])) r2 (.tup [.str wo, .ref l2])) := sm_new hr2
      have s67 := s6.trans s7
      exact fin _ (mk t) _ (b5.tr (sm_bt s67)) (pool_same s67 p5) ⟨r2, _, rfl, .inl (.inl upd_same), h1 _ l2 u t (s7 _ _ upd_same) (prs_same s67 hu) (fr b5 p5 hl2)⟩ (h2 t cn) (h3 t bd)⟩⟩
    have hw01 : way = 0 ∨ way = 1 := by omega
    rcases hw01 with rfl | rfl
    · refine ⟨q, _, 0, .str "start", rfl, rfl, SqL.of upd_same, rfl, _, rfl, _, rfl, p, l, ws, rfl, p4, s4 _ _ l3, W, fun u t H5 b5 p5 hu hB => ⟨_, rfl, k, rfl, ?_⟩⟩
      obtain ⟨cn, bd⟩ := bag_take hB k
      refine sl_upto (C := 0) stb_pr hu (i := k) fun u6 H6 s6 hu6 => ?_
      exact fin2 "start" .sta (fun _ l2 u t h g n => ⟨l2, u, rfl, h, g, n⟩) (fun _ h => h) (fun _ h => h) u6 _ H6 ((b03.tr ((sm_bt s4).tr b5)).tr (sm_bt s6)) (pool_same s6 p5) hu6 cn bd
    · refine ⟨q, _, 1, .str "merge", rfl, rfl, SqL.of upd_same, rfl, _, rfl, _, rfl, p, l, ws, rfl, p4, s4 _ _ l3, W, fun u t H5 b5 p5 hu hB => ⟨_, rfl, k, rfl, ?_⟩⟩
      obtain ⟨cn, bd⟩ := bag_take hB k
      refine sl_upto (C := 0) stb_pr hu (i := k) fun u6 H6 s6 hu6 => ?_
      exact fin2 "merge" .mrg (fun _ l2 u t h g n => ⟨l2, u, rfl, h, g, n⟩) (fun _ h => h) (fun _ h => h) u6 _ H6 ((b03.tr ((sm_bt s4).tr b5)).tr (sm_bt s6)) (pool_same s6 p5) hu6 cn bd
  · rw [decide_eq_false c]
    refine iteF (pcond rfl rfl rfl ?_)
    by_cases c2 : way = 2 ∧ pl < m
    · rw [decide_eq_true c2]
      refine iteT ⟨_, rfl, by show 2 ≤ sizeLine; decide, fun q hq => ?_⟩
      exact fin _ (.rem pl) _ (b03.tr (sm_bt (sm_new hq))) (pool_same (sm_new hq) p3) ⟨q, _, rfl, .inl (.inl upd_same), rfl⟩ c2.2 trivial
    · rw [decide_eq_false c2]
      refine iteF ⟨_, rfl, _, rfl, p, rfl, p3, fun n4 H4 b4 p4 n40 n41 => ⟨by show 3 ≤ sizeLine; decide, fun q5 hq5 => ⟨_, rfl, _, rfl, _, rfl, p, rfl, pool_same (sm_new hq5) p4, fun n6 H6 b6 p6 n60 n61 => ⟨by show 4 ≤ sizeLine; decide, fun q7 hq7 => ⟨by show 2 ≤ sizeLine; decide, fun q8 hq8 => ?_⟩⟩⟩⟩⟩
      generalize eH5 : upd H4 q5 (.tup [.str "arrive", .str wd, .int n4]) = H5 at b6
      have s5 : Same H4 H5 := eH5 ▸ sm_new hq5
      have g5 : H5 q5 = some (.tup [.str "arrive", .str wd, .int n4]) := eH5 ▸ upd_same
      have n5p : q5 ≠ p := by
        obtain ⟨a, b, c, h, _⟩ := p4
        exact (ne_of_none h hq5).symm
      have g6 := b6 _ _ g5 n5p
      generalize eH7 : upd H6 q7 (.tup [.str "insert", .int (pl : Int), .str wd, .int n6]) = H7 at hq8 ⊢
      have s7 : Same H6 H7 := eH7 ▸ sm_new hq7
      have g7 : H7 q7 = some (.tup [.str "insert", .int (pl : Int), .str wd, .int n6]) := eH7 ▸ upd_same
      have s8 : Same H7 (upd H7 q8 (.lst [.ref q5, .ref q7])) := sm_new hq8
      have bAll : But p H (upd H7 q8 (.lst [.ref q5, .ref q7])) := b03.tr (b4.tr ((sm_bt s5).tr (b6.tr (sm_bt (s7.trans s8)))))
      have pAll : PoolAt (upd H7 q8 (.lst [.ref q5, .ref q7])) p := pool_same (s7.trans s8) p6
      have a5 : LActV K A0 (upd H7 q8 (.lst [.ref q5, .ref q7])) (.ref q5) (.arr wd n4) := ⟨q5, _, rfl, .inl (.inl ((s7.trans s8) _ _ g6)), rfl⟩
      have a7 : LActV K A0 (upd H7 q8 (.lst [.ref q5, .ref q7])) (.ref q7) (.ins pl wd n6) := ⟨q7, _, rfl, .inl (.inl (s8 _ _ g7)), rfl⟩
      have nm := W.nm wd hw
      have r5 := fin _ _ _ bAll pAll a5 (show ActOk k m (.arr wd n4) from ⟨nm, n40⟩) ⟨hw, n41⟩
      have r7 := fin _ _ _ bAll pAll a7 (show ActOk k m (.ins pl wd n6) from ⟨by omega, nm, n60⟩) ⟨hw, n61⟩
      have cs : way = 2 ∨ way = 3 ∨ way = 4 ∨ way = 5 ∨ way = 6 ∨ way = 7 := by omega
      rcases cs with rfl | rfl | rfl | rfl | rfl | rfl
      · exact ⟨_, rfl, _, _, rfl, rfl, q8, _, 0, .ref q5, rfl, congrArg V.int (by decide), SqL.of upd_same, rfl, r5⟩
      · exact ⟨_, rfl, _, _, rfl, rfl, q8, _, 1, .ref q7, rfl, congrArg V.int (by decide), SqL.of upd_same, rfl, r7⟩
      · exact ⟨_, rfl, _, _, rfl, rfl, q8, _, 0, .ref q5, rfl, congrArg V.int (by decide), SqL.of upd_same, rfl, r5⟩
      · exact ⟨_, rfl, _, _, rfl, rfl, q8, _, 1, .ref q7, rfl, congrArg V.int (by decide), SqL.of upd_same, rfl, r7⟩
      · exact ⟨_, rfl, _, _, rfl, rfl, q8, _, 0, .ref q5, rfl, congrArg V.int (by decide), SqL.of upd_same, rfl, r5⟩
      · exact ⟨_, rfl, _, _, rfl, rfl, q8, _, 1, .ref q7, rfl, congrArg V.int (by decide), SqL.of upd_same, rfl, r7⟩
end
end Kx
set_option Elab.async false
set_option linter.all false
set_option maxRecDepth 100000
set_option maxHeartbeats 4000000
namespace Kx
open PySem PySem.Spec PyProof.Rows L2
def Nil : Addr → Prop := fun _ => False
section
variable {K : PySem.W.Frag} {A B : Addr → Prop} {H : Hp}
theorem lrow_up {v : V} {r : Row} (hA : ∀ b, A b → H b = none) (x : LRowV K B H v r) : LRowV K A H v r := match r, x with
  | .run _ _, x => x
  | .sum _, ⟨l, u, e, h1, g, n⟩ => ⟨l, u, e, h1, g, fun z => by rw [hA _ z] at h1; cases h1⟩
theorem lst_up {v : V} {q : Sta} (hA : ∀ b, A b → H b = none) : LStV K B H v q → LStV K A H v q := fun ⟨p, b, l, xs, e, h1, g, hl, pd, n⟩ => ⟨p, b, l, xs, e, h1, g, hl, pd_imp (fun _ _ => lrow_up hA) pd, fun z => by rw [hA _ z] at hl; cases hl⟩
theorem lst_dn {v : V} {q : Sta} (h : LStV K A H v q) : LStV K Nil H v q := lst_up (fun _ z => z.elim) h
theorem lact_dn {v : V} {a : Act} : LActV K A H v a → LActV K Nil H v a := fun ⟨p, xs, e, h1, i⟩ => ⟨p, xs, e, h1, match a, i with
  | .arr _ _, h => h
  | .mrg _, ⟨l, u, e, h1, g, n⟩ => ⟨l, u, e, h1, g, fun z => z⟩
  | .ins _ _ _, h => h
  | .rem _, h => h
  | .sta _, ⟨l, u, e, h1, g, n⟩ => ⟨l, u, e, h1, g, fun z => z⟩⟩
end
theorem actsOk_snoc {k : Nat} {a : Act} : ∀ {l : List Act} {q : Sta}, ActsOk k q l → ActOk k (aftL q l).2.length a → ActsOk k q (l ++ [a])
  | [], _, _, h => ⟨h, trivial⟩
  | b :: l, q, h, g => ⟨h.1, actsOk_snoc (l := l) (q := aft q b) h.2 g⟩
section
variable {P : Program} {w : World} {K : PySem.W.Frag} {mg : Str → Option Value} {base : Heap}
def spDrawn : Sp := fun vs H Q _ => ∃ (p l : Addr) (k : Nat) (sv : V) (ws : List Str) (q0 : Sta), vs = [.ref p, .int k, .ref l, sv, .int 8] ∧ PoolAt H p ∧ H l = some (.lst (ws.map V.str)) ∧ Wds ws ∧ LStV K Nil H sv q0 ∧ q0.2.length ≤ 20 ∧
  ∀ r D5 D6 xs ys last acts H', But p H H' → PoolAt H' p → H' r = some (.lst [.ref D5, .ref D6]) → H' D5 = some (.lst xs) → H' D6 = some (.lst (ys ++ [last])) → Paired (LActV K Nil H') xs acts → LStV K Nil H' last (aftL q0 acts) → acts.length ≤ 8 → ActsOk k q0 acts → (∀ a ∈ acts, ActBd ws a) → Q (.ref r) H'
theorem ok_ldrawn (T : Tx w K mg) : Fn1 P w K mg base 5 "_law_drawn" ["_law_pool_here", "_law_width", "_law_words_here", "_law_state", "_law_most"] [] (spDrawn (K := K)) := by
  refine T.E__law_drawn (fun vs H Q E h => ?_) (fun cdv A outer s H vs Q E hr h => ?_)
  · obtain ⟨_, _, _, _, _, _, rfl, _⟩ := h
    rfl
  obtain ⟨p, l, k, sv, ws, q0, rfl, hp, hl, W, hs, hz, fin⟩ := h
  have hlp := wds_ne W hp hl
  refine ⟨_, pss_cons (ps_par (i := 5) (j := 6) rfl sc__law_drawn.nd rfl rfl (by decide) rfl rfl (pa_cons (pe_lst pa_nil) (pa_cons (pe_lst (pa_cons (pv 3) pa_nil)) pa_nil)) (by kernel_rfl))
    (pss_cons (ps_for PassesOwn.never rfl (pi_range1 (by rfl) T.b_range (pa_cons (pe_f (ok_ldraw T) (hr.mono (by decide)) (pa_cons (pv 0) (pa_cons (pe_op op_add (pv 4) pe_int) pa_nil))) pa_nil)) (pg_name (i := 7) sc__law_drawn.nd rfl (Or.inl rfl))
      (pss_cons (ps_expr (pe_bm PySem.F.plainAttrs_list PySem.F.slot_list_append PySem.F.type_list_append mt_append (pv 5) (pa_cons (pe_f (ok_lplain T) hr (pa_cons (pv 0) (pa_cons (pv 1) (pa_cons (pv 2) (pa_cons (pe_callB call_len_seq (by rfl) T.b_len bt_len (pa_cons (pe_ix ix_tup (pe_ix ix_list (pv 6) (pe_un un_neg pe_int) (fun _ _ => rfl)) pe_int (fun _ _ => rfl)) pa_nil)) pa_nil))))) pa_nil)))
      (pss_one (ps_expr (pe_bm PySem.F.plainAttrs_list PySem.F.slot_list_append PySem.F.type_list_append mt_append (pv 6) (pa_cons (pe_f (ok_ldone T) (hr.mono (by decide)) (pa_cons (pe_ix ix_list (pv 6) (pe_un un_neg pe_int) (fun _ _ => rfl)) (pa_cons (pe_ix ix_list (pv 5) (pe_un un_neg pe_int) (fun _ _ => rfl)) pa_nil))) pa_nil))))))
    (pss_one (ps_ret (pe_lst (pa_cons (pv 5) (pa_cons (pv 6) pa_nil)))))), ?_⟩
  refine ⟨Nat.zero_le _, fun D5 h5 => ⟨_, rfl, by show 1 ≤ sizeLine; decide, fun D6 h6 => ⟨_, _, rfl, ?_⟩⟩⟩
  have n56 : D6 ≠ D5 := fun e => by rw [e, upd_same] at h6; cases h6
  have h6' : H D6 = none := by rw [← h6, upd_ne n56]
  have pne : ∀ {z : Addr}, H z = none → z ≠ p := fun {z} h e => by
    obtain ⟨a, b, c, g, _⟩ := hp
    rw [e, g] at h
    cases h
  have n5p := pne h5
  have n6p := pne h6'
  let A : Addr → Prop := fun b => b = D5 ∨ b = D6
  have hsA : LStV K A H sv q0 := lst_up (fun b z => by rcases z with z | z <;> rw [z] <;> assumption) hs
  generalize eH1 : upd (upd H D5 (.lst [])) D6 (.lst [sv]) = H1
  have s1 : Same H H1 := eH1 ▸ Same.trans (sm_new h5) (sm_new h6)
  have g5 : H1 D5 = some (.lst []) := by rw [← eH1, upd_ne n56.symm, upd_same]
  have g6 : H1 D6 = some (.lst [sv]) := eH1 ▸ upd_same
  refine ⟨_, rfl, _, rfl, _, _, rfl, rfl, p, 9, rfl, pool_same s1 hp, by decide, by decide, fun r H2 b2 p2 r0 r1 => ?_⟩
  obtain ⟨m, rfl⟩ : ∃ m : Nat, r = m := ⟨r.toNat, by omega⟩
  have hm : m ≤ 8 := by omega
  refine ⟨_, rfl, by omega, by omega, ?_⟩
  refine for_it (walk_range (lo := 0) (n := (m : Int).toNat)) (fun i σ H' => (∃ x, σ = [some (.ref p), some (.int k), some (.ref l), some sv, some (.int 8), some (.ref D5), some (.ref D6), x]) ∧ But p H H' ∧ PoolAt H' p ∧ ∃ xs ys last acts, H' D5 = some (.lst xs) ∧ H' D6 = some (.lst (ys ++ [last])) ∧ xs.length = i ∧ ys.length = i ∧ Paired (LActV K A H') xs acts ∧ LStV K A H' last (aftL q0 acts) ∧ ActsOk k q0 acts ∧ ∀ a ∈ acts, ActBd ws a)
    ⟨⟨none, rfl⟩, (sm_bt s1).tr b2, p2, [], [], sv, [], b2 _ _ g5 n5p, b2 _ _ g6 n6p, rfl, rfl, .nil, lst_sv' (C := 0) ((sm_sv s1).tr (pool_sv (pool_same s1 hp) b2)) hsA, trivial, fun a h => (by cases h)⟩ (fun _ _ _ _ _ => trivial) (fun i x σ H3 H4 hi pp y => ?_) fun σ H3 pp => ?_
  · obtain ⟨⟨x0, rfl⟩, b3, p3, xs, ys, last, acts, d5, d6, lx, ly, pa, ls, ok, bd⟩ := pp
    obtain ⟨rfl, rfl⟩ := y
    have la := pd_len pa
    have hi8 : i < 8 := by omega
    obtain ⟨tp, tb, tl, txs, rfl, htp, htb, htl, tpd, tn⟩ := id ls
    have tpl := pd_len tpd
    have al := aftL_len (l := acts) (q := q0)
    have l3 := b3 _ _ hl hlp
    refine ⟨_, rfl, .inl ⟨rfl, _, SqL.of d5⟩, _, rfl, _, rfl, _, rfl, _, rfl, 1, rfl, D6, _, -1, .ref tp, rfl, rfl, SqL.of d6, atI_last ys (.ref tp), tp, _, 1, .ref tl, rfl, rfl, htp, atI_nat (j := 1) rfl, tl, txs, rfl, .inl (SqL.of htl), p, l, k, txs.length, ws, A, rfl, p3, l3, W, by omega, fun b z => ?_, fun u a H5 b5 p5 ha aok abd => ?_⟩
    · rcases z with z | z
      · rw [z, d5]; simp
      · rw [z, d6]; simp
    have sv5 := pool_sv (C := 0) p3 b5
    have e5 := b5 _ _ d5 n5p
    have e6 := b5 _ _ d6 n6p
    refine ⟨D5, xs, u, rfl, rfl, e5, small1000 (by omega), ?_⟩
    generalize eH6 : upd H5 D5 (.lst (xs ++ [u])) = H6
    have f5 : H6 D5 = some (.lst (xs ++ [u])) := eH6 ▸ upd_same
    have f6 : H6 D6 = some (.lst (ys ++ [.ref tp])) := by rw [← eH6, upd_ne n56]; exact e6
    have ls6 : LStV K A H6 (.ref tp) (aftL q0 acts) := eH6 ▸ lst_out (.inl rfl) e5 (lst_sv' sv5 ls)
    have ha6 : LActV K A H6 u a := eH6 ▸ lact_out (.inl rfl) e5 ha
    have pa6 : Paired (LActV K A H6) xs acts := pd_imp (fun _ _ h => eH6 ▸ lact_out (.inl rfl) e5 (lact_sv sv5 h)) pa
    have p6 : PoolAt H6 p := eH6 ▸ pool_upd n5p p5
    have b6 : But p H H6 := eH6 ▸ bt_mut (b3.tr b5) h5
    rw [tpl] at aok
    refine ⟨_, rfl, .inl ⟨rfl, _, SqL.of f6⟩, _, rfl, 1, rfl, D6, _, -1, .ref tp, rfl, rfl, SqL.of f6, atI_last ys (.ref tp), _, rfl, 1, rfl, D5, _, -1, u, rfl, rfl, SqL.of f5, atI_last xs u, _, u, _, a, k, A, rfl, ls6, ha6, aok, by omega, fun b z => ?_, fun v H7 s7 hv => ?_⟩
    · rcases z with z | z
      · rw [z, f5]; simp
      · rw [z, f6]; simp
    have k6 := s7 _ _ f6
    refine ⟨D6, _, v, rfl, rfl, k6, by rw [List.length_append]; exact small1000 (show ys.length + 1 ≤ 1000 by omega), ?_⟩
    refine ⟨⟨_, rfl⟩, bt_mut (b6.tr (sm_bt s7)) h6', pool_upd n6p (pool_same s7 p6), xs ++ [u], ys ++ [.ref tp], v, acts ++ [a], ?_, upd_same, ?_, ?_, ?_, ?_, actsOk_snoc ok aok, fun a' ha' => ?_⟩
    · rw [upd_ne n56.symm]
      exact s7 _ _ f5
    · rw [List.length_append, lx]; rfl
    · rw [List.length_append, ly]; rfl
    · exact pd_imp (fun _ _ h => lact_out (.inr rfl) k6 (lact_sv (C := 0) (sm_sv s7) h)) (pd_snoc pa6 ha6)
    · rw [aftL_snoc]
      exact lst_out (.inr rfl) k6 hv
    · rcases List.mem_append.mp ha' with z | z
      · exact bd a' z
      · rw [List.mem_singleton.mp z]
        exact abd
  · obtain ⟨⟨x0, rfl⟩, b3, p3, xs, ys, last, acts, d5, d6, lx, ly, pa, ls, ok, bd⟩ := pp
    have la := pd_len pa
    refine ⟨_, rfl, _, rfl, by show 2 ≤ sizeLine; decide, fun r hr0 => ?_⟩
    have s4 : Same H3 (upd H3 r (.lst [.ref D5, .ref D6])) := sm_new hr0
    have sv4 := sm_sv (C := 0) s4
    exact fin r D5 D6 xs ys last acts _ (b3.tr (sm_bt s4)) (pool_same s4 p3) upd_same (s4 _ _ d5) (s4 _ _ d6) (pd_imp (fun _ _ h => lact_dn (lact_sv sv4 h)) pa) (lst_dn (lst_sv' sv4 ls)) (by omega) ok bd
end
end Kx
set_option Elab.async false
set_option linter.all false
set_option maxRecDepth 100000
set_option maxHeartbeats 4000000
namespace Kx
open PySem PySem.Spec PyProof.Rows L2
def Act.tab : Act → Tab
  | .mrg t => t
  | .sta t => t
  | _ => []
def DeedR (K : PySem.W.Frag) (k : Nat) (a : Act) (H : Hp) (y : V) : V → Prop
  | .ref _ => SumV K H y (k, a.tab)
  | x => y = x
section
variable {P : Program} {w : World} {K : PySem.W.Frag} {mg : Str → Option Value} {base : Heap}
theorem stb_deed (T : Tx w K mg) {k : Nat} {a : Act} : Stb (CC K) (DeedR K k a) := ⟨fun {H H' y x} s h => by
  cases x <;> first | exact (stb_sum T).tv s h | exact h⟩
def spDeed : Sp := fun vs H Q _ => ∃ (k : Nat) (v : V) (a : Act), vs = [.int k, v] ∧ LActV K Nil H v a ∧ Cn k a.tab ∧ 1 ≤ k ∧ k ≤ 8 ∧ ∀ u H', Same H H' → ActV K k H' u a → Q u H'
theorem deed_items {H : Hp} {xs : List V} {a : Act} (h : LActI K Nil H xs a) : xs.length ≤ 4 ∧ ∀ x ∈ xs, (∃ s, x = .str s) ∨ (∃ i, x = .int i) ∨ ∃ l u, x = .ref l ∧ H l = some (.lst [u]) ∧ TupOf K (PrV K) H u a.tab := by
  cases a with
  | arr x n =>
    obtain rfl := h
    refine ⟨by simp, fun y hy => ?_⟩
    simp at hy
    rcases hy with rfl | rfl | rfl
    · exact .inl ⟨_, rfl⟩
    · exact .inl ⟨_, rfl⟩
    · exact .inr (.inl ⟨_, rfl⟩)
  | mrg t =>
    obtain ⟨l, u, rfl, h, g, _⟩ := h
    refine ⟨by simp, fun y hy => ?_⟩
    simp at hy
    rcases hy with rfl | rfl
    · exact .inl ⟨_, rfl⟩
    · exact .inr (.inr ⟨l, u, rfl, h, g⟩)
  | ins i x n =>
    obtain rfl := h
    refine ⟨by simp, fun y hy => ?_⟩
    simp at hy
    rcases hy with rfl | rfl | rfl | rfl
    · exact .inl ⟨_, rfl⟩
    · exact .inr (.inl ⟨_, rfl⟩)
    · exact .inl ⟨_, rfl⟩
    · exact .inr (.inl ⟨_, rfl⟩)
  | rem i =>
    obtain rfl := h
    refine ⟨by simp, fun y hy => ?_⟩
    simp at hy
    rcases hy with rfl | rfl
    · exact .inl ⟨_, rfl⟩
    · exact .inr (.inl ⟨_, rfl⟩)
  | sta t =>
    obtain ⟨l, u, rfl, h, g, _⟩ := h
    refine ⟨by simp, fun y hy => ?_⟩
    simp at hy
    rcases hy with rfl | rfl
    · exact .inl ⟨_, rfl⟩
    · exact .inr (.inr ⟨l, u, rfl, h, g⟩)
theorem deed_back {H0 H : Hp} {k : Nat} {xs ys : List V} {a : Act} (h : LActI K Nil H0 xs a) (p : Paired (DeedR K k a H) ys xs) : ActI K k H ys a := by
  cases a with
  | arr x n =>
    obtain rfl := h
    cases p with | cons h1 p => cases p with | cons h2 p => cases p with | cons h3 p => cases p with | nil =>
    have h1 : _ = _ := h1
    have h2 : _ = _ := h2
    have h3 : _ = _ := h3
    rw [h1, h2, h3]
    rfl
  | mrg t =>
    obtain ⟨l, u, rfl, h, g, _⟩ := h
    cases p with | cons h1 p => cases p with | cons h2 p => cases p with | nil =>
    have h1 : _ = _ := h1
    exact ⟨_, by rw [h1], h2⟩
  | ins i x n =>
    obtain rfl := h
    cases p with | cons h1 p => cases p with | cons h2 p => cases p with | cons h3 p => cases p with | cons h4 p => cases p with | nil =>
    have h1 : _ = _ := h1
    have h2 : _ = _ := h2
    have h3 : _ = _ := h3
    have h4 : _ = _ := h4
    rw [h1, h2, h3, h4]
    rfl
  | rem i =>
    obtain rfl := h
    cases p with | cons h1 p => cases p with | cons h2 p => cases p with | nil =>
    have h1 : _ = _ := h1
    have h2 : _ = _ := h2
    rw [h1, h2]
    rfl
  | sta t =>
    obtain ⟨l, u, rfl, h, g, _⟩ := h
    cases p with | cons h1 p => cases p with | cons h2 p => cases p with | nil =>
    have h1 : _ = _ := h1
    exact ⟨_, by rw [h1], h2⟩
theorem ok_ldeed (T : Tx w K mg) : Fn1 P w K mg base 7 "_law_deed" ["_law_width", "_law_plain_here"] [] (spDeed (K := K)) := by
  refine T.E__law_deed (fun vs H Q E h => ?_) (fun cdv A outer s H vs Q E hr h => ?_)
  · obtain ⟨_, _, _, rfl, _⟩ := h
    rfl
  obtain ⟨k, v, a, rfl, ⟨p, xs, rfl, hp, hi⟩, cn, hk, hk8, fin⟩ := h
  obtain ⟨xl, items⟩ := deed_items hi
  refine ⟨_, pss_one (ps_ret (pe_callTy call_tuple_of rfl T.b_tuple bt_tuple (pa_cons (pe_lc (own := [("_law_part", 2)]) (g := gName 2) (tt := tYes) rfl sc__law_deed.nd (pi_tup (pv 1)) (blkOk_by (N := n__law_deed) (sc := defScope s__law_deed) (by decide +kernel))
      (fun _ _ _ _ _ => pg_name (i := 2) sc__law_deed.nd rfl (Or.inl rfl)) (fun _ _ _ _ _ => pts_nil) (fun _ _ _ _ _ => pe_ifExp (pt_val (pe_callB (r := rIsi K) call_isi (by rfl) T.b_isinstance bt_isi (pa_cons (pv 2) (pa_cons (pe_bltn (v := .ty "list") (by rfl) T.b_list bt_list rfl) pa_nil)))) (pe_mk (mk_S2 T) hr (pa_cons (pv 0) (pa_cons (pe_ix (r := rIxL K) ix_list (pv 2) pe_int (fun _ _ => rfl)) pa_nil))) (pv 2))) pa_nil))), ?_⟩
  refine ⟨_, rfl, p, rfl, ⟨xs, hp⟩, fun D hD => ?_⟩
  refine lc_M (C := CC K) walk_tup xs id (DeedR K k a) (stb_deed T) rfl (by omega) hD (fun H' s => st_sm s hp) (fun i x v H1 H2 F1 hi' s y f1 => ?_) fun ys H1 s hy q => ?_
  · obtain ⟨rfl, ex⟩ := y
    rw [hi'] at ex
    cases ex
    rcases items x (List.mem_of_getElem? hi') with ⟨z, rfl⟩ | ⟨z, rfl⟩ | ⟨l, u, rfl, hl, hu⟩
    · exact ⟨rfl, _, rfl, _, _, _, _, false, rfl, .ty "list", .base (.str z), kit_ty (by decide +kernel), false, rfl, iteF ⟨_, rfl, f1 _ _ (Same.refl _) rfl⟩⟩
    · exact ⟨rfl, _, rfl, _, _, _, _, false, rfl, .ty "list", .base (.int z), kit_ty (by decide +kernel), false, rfl, iteF ⟨_, rfl, f1 _ _ (Same.refl _) rfl⟩⟩
    · have hl1 := s _ _ hl
      refine ⟨rfl, _, rfl, _, _, _, _, true, rfl, .ty "list", .base (.lst hl1), kit_ty (by decide +kernel), true, rfl, iteT ⟨_, rfl, _, rfl, l, _, 0, _, rfl, rfl, SqL.of hl1, atI_nat (j := 0) rfl, fun x0 dx0 z1 z2 z3 => made_S2 T hk hk8 (prs_same s hu) cn z1 z2 z3 fun H3 s3 hs => ⟨rfl, f1 _ _ s3 hs⟩⟩⟩
  · refine ⟨D, ys, rfl, .inl ⟨SqL.of hy, fun l hl => ?_⟩⟩
    have s2 := sm_new (o := .tup ys) hl
    rw [List.map_id] at q
    exact fin _ _ (s.trans s2) ⟨l, ys, rfl, .inl (.inl upd_same), deed_back hi (pd_imp (fun _ _ h => (stb_deed T).sm s2 h) q)⟩
def spDeeds : Sp := fun vs H Q _ => ∃ (k : Nat) (l : Addr) (xs : List V) (acts : List Act), vs = [.int k, .ref l] ∧ H l = some (.lst xs) ∧ Paired (LActV K Nil H) xs acts ∧ (∀ a ∈ acts, Cn k a.tab) ∧ 1 ≤ k ∧ k ≤ 8 ∧ acts.length ≤ 100 ∧ ∀ u H', Same H H' → TupOf K (ActV K k) H' u acts → Q u H'
theorem ok_ldeeds (T : Tx w K mg) : Fn1 P w K mg base 8 "_law_deeds" ["_law_width", "_law_plains"] [] (spDeeds (K := K)) := by
  refine T.E__law_deeds (fun vs H Q E h => ?_) (fun cdv A outer s H vs Q E hr h => ?_)
  · obtain ⟨_, _, _, _, rfl, _⟩ := h
    rfl
  obtain ⟨k, l, xs, acts, rfl, hl, pd, cn, hk, hk8, hz, fin⟩ := h
  have pl := pd_len pd
  refine ⟨_, pss_one (ps_ret (pe_callTy call_tuple_of rfl T.b_tuple bt_tuple (pa_cons (pe_lc (own := [("_law_plain_here", 2)]) (g := gName 2) (tt := tYes) rfl sc__law_deeds.nd (pi_list (pv 1)) (blkOk_by (N := n__law_deeds) (sc := defScope s__law_deeds) (by decide +kernel))
      (fun _ _ _ _ _ => pg_name (i := 2) sc__law_deeds.nd rfl (Or.inl rfl)) (fun _ _ _ _ _ => pts_nil) (fun _ _ _ _ _ => pe_f (ok_ldeed T) hr (pa_cons (pv 0) (pa_cons (pv 2) pa_nil)))) pa_nil))), ?_⟩
  refine ⟨_, rfl, l, rfl, ⟨xs, SqL.of hl⟩, fun D hD => ?_⟩
  refine lc_M (C := CC K) walk_list acts id (ActV K k) (stb_act T) pl.symm (by omega) hD (fun H' s => SqL.of (s _ _ hl)) (fun i a v H1 H2 F1 hi' s y f1 => ?_) fun ys H1 s hy q => ?_
  · obtain ⟨rfl, ex⟩ := y
    obtain ⟨a', ea, ha⟩ := pd_get pd ex
    rw [hi'] at ea
    cases ea
    exact ⟨rfl, _, rfl, _, rfl, k, v, a, rfl, lact_sv (C := 0) (sm_sv s) ha, cn a (List.mem_of_getElem? hi'), hk, hk8, fun u H3 s3 hu => f1 u H3 s3 hu⟩
  · refine ⟨D, ys, rfl, .inl ⟨SqL.of hy, fun l hl => ?_⟩⟩
    have s2 := sm_new (o := .tup ys) hl
    rw [List.map_id] at q
    exact fin _ _ (s.trans s2) ⟨l, ys, rfl, .inl (.inl upd_same), pd_imp (fun _ _ h => act_same s2 h) q⟩
/-! ### changes, the law's own -/
def hgS (a b : Tab) : List Str := (srtN (nms a)).filter fun x => decide (val b x < val a x)
def spLChange : Sp := fun vs H Q _ => ∃ (fv pv' : V) (k i : Nat) (x : Str) (t rs : Tab), vs = [.int k, fv, pv', .int i, .str x] ∧ TupOf K (PrV K) H fv t ∧ TupOf K (PrV K) H pv' rs ∧ Cn k t ∧ 1 ≤ k ∧ k ≤ 8 ∧ (∀ r ∈ rs, 1 ≤ r.2) ∧ rs.length ≤ 900 ∧ i ≤ rs.length ∧
  ((hgS (play k t (mid rs i x)).1 (play k t rs).1 = [] ∧ ∀ u H', Same H H' → ChgV K H' u none → Q u H') ∨ ∃ e r, hgS (play k t (mid rs i x)).1 (play k t rs).1 = e :: r ∧ ∀ u H', Same H H' → ChgV K H' u (some e) → Q u H')
theorem ok_lchange (T : Tx w K mg) : Fn1 P w K mg base 4 "_law_change" ["_law_width", "_law_first", "_law_path_here", "_law_at", "_law_word"] [] (spLChange (K := K)) := by
  refine T.E__law_change (fun vs H Q E h => ?_) (fun cdv A outer s H vs Q E hr h => ?_)
  · obtain ⟨_, _, _, _, _, _, _, rfl, _⟩ := h
    rfl
  obtain ⟨fv, ov, k, i, x, t, rs, rfl, hf, hov, cn, hk, hk8, hge, hz, hi, fin⟩ := h
  have hu := hu_of hr
  have tl := cn.len
  refine ⟨_, pss_cons (ps_set (i := 5) sc__law_change.nd rfl (Or.inr rfl) (pe_ix ix_tup (pe_f (ok_lplayed T) hr (pa_cons (pv 0) (pa_cons (pe_f (ok_lheld T) (hr.mono (by decide)) (pa_cons (pv 1) pa_nil)) (pa_cons (pv 2) pa_nil)))) pe_int (fun _ _ => rfl)))
    (pss_cons (ps_set (i := 6) sc__law_change.nd rfl (Or.inr rfl) (pe_ix ix_tup (pe_f (ok_lplayed T) hr (pa_cons (pv 0) (pa_cons (pe_f (ok_lheld T) (hr.mono (by decide)) (pa_cons (pv 1) pa_nil)) (pa_cons (pe_op op_catA (pe_op op_catA (pe_slice sl_tupA (pv 2) po_none (po_some (pv 3))) (pe_tup (pa_cons (pe_tup (pa_cons (pv 4) (pa_cons pe_int pa_nil))) pa_nil))) (pe_slice sl_tupA (pv 2) (po_some (pv 3)) po_none)) pa_nil)))) pe_int (fun _ _ => rfl)))
    (pss_cons (ps_setLc (i := 7) (own := [("_law_each", 8)]) (g := gName 8) rfl sc__law_change.nd rfl rfl rfl (pi_list (pe_callB (call_sortedD rfl) rfl T.b_sorted bt_sorted (pa_cons (pv 6) pa_nil))) (blkOk_by (N := n__law_change) (sc := defScope s__law_change) (by decide +kernel))
      (fun _ _ _ _ _ => pg_name (i := 8) sc__law_change.nd rfl (Or.inl rfl)) (fun _ _ _ _ _ => pts_one (pt_cmpR op_gt (pe_dget hu (pv 6) (pv 8) (fun _ _ => rfl)) (pe_dget2 hu (pv 5) (pv 8) pe_int ⟨rfl, rfl, rfl, rfl⟩) (nomark _))) (fun _ _ _ _ _ => pv 8))
    (pss_one (ps_ret (pe_ifExp (pt_cmpR (op_neNilL hr.units0) (pv 7) (pe_lst pa_nil) (nomark _)) (pe_tup (pa_cons pe_str (pa_cons (pe_ix ix_list (pv 7) pe_int (fun _ _ => rfl)) pa_nil))) (pe_tup (pa_cons pe_str pa_nil))))))), ?_⟩
  refine ⟨_, rfl, _, rfl, fv, t, rfl, hf, asc_nd cn.asc, by omega, fun d1 H1 s1 _ h1 => ?_⟩
  refine ⟨_, rfl, k, d1, t, ov, rs, rfl, h1, cn.tk, hk, by omega, prs_same s1 hov, hge, fun e1 p1 H2 s2 g1 g2 => ⟨p1, _, 0, _, rfl, rfl, .inl (.inl g2), atI_nat (j := 0) rfl, ?_⟩⟩
  have s02 := s1.trans s2
  refine ⟨_, rfl, _, rfl, fv, t, rfl, prs_same s02 hf, asc_nd cn.asc, by omega, fun d3 H3 s3 _ h3 => ?_⟩
  have s03 := s02.trans s3
  have ov4 := prs_same s03 hov
  refine ⟨_, rfl, _, rfl, i, rfl, sl_upto (C := 0) stb_pr ov4 (i := i) fun u5 H5 s5 hu5 => ⟨_, rfl, by show 2 ≤ sizeLine; decide, fun q6 hq6 => ?_⟩⟩
  have s6 : Same H5 (upd H5 q6 (.tup [.str x, .int 1])) := sm_new hq6
  refine one_d (C := 0) stb_pr (a := (x, (1 : Int))) (show PrV K _ (.ref q6) (x, 1) from ⟨q6, rfl, .inl (.inl upd_same)⟩) fun q7 H7 s7 hq7 => cat_d (C := 0) stb_pr (prs_same (s6.trans s7) hu5) hq7 (by show (rs.take i).length + 1 ≤ 1000; rw [List.length_take]; omega) fun v8 H8 s8 hv8 => ?_
  have s08 : Same H3 H8 := s5.trans (s6.trans (s7.trans s8))
  refine ⟨_, rfl, _, rfl, i, rfl, ?_⟩
  dsimp only [tNoPart]
  refine sl_from (C := 0) stb_pr (prs_same s08 ov4) (i := i) fun u9 H9 s9 hu9 => cat_d (C := 0) stb_pr (prs_same s9 hv8) hu9 (by rw [List.length_append, List.length_take, List.length_drop]; show _ + 1 + _ ≤ _; omega) fun v10 H10 s10 hv10 => ?_
  have s310 : Same H3 H10 := s08.trans (s9.trans s10)
  have mge : ∀ r ∈ mid rs i x, 1 ≤ r.2 := fun r hr => by
    rcases List.mem_append.mp hr with z | z
    · rcases List.mem_append.mp z with y | y
      · exact hge r (List.mem_of_mem_take y)
      · rw [List.mem_singleton.mp y]
        exact Int.le_refl _
    · exact hge r (List.mem_of_mem_drop z)
  refine ⟨k, d3, t, v10, mid rs i x, rfl, s310 _ _ h3, cn.tk, hk, by omega, hv10, mge, fun e2 p2 H11 s11 g3 g4 => ⟨p2, _, 0, _, rfl, rfl, .inl (.inl g4), atI_nat (j := 0) rfl, ?_⟩⟩
  have s011 : Same H H11 := s03.trans (s310.trans s11)
  have g1' := s11 _ _ (s310 _ _ (s3 _ _ g1))
  have tkA := play_tk hk mge cn.tk
  have tlA := tkA.len
  refine ⟨_, rfl, e2, _, nms (play k t (mid rs i x)).1, rfl, .inl g3, kd_keys _, by rw [nms_len]; omega, fun ys p pm so hp => ⟨p, rfl, ⟨_, SqL.of upd_same⟩, fun D hD => ?_⟩⟩
  obtain rfl := sortedS_srt pm so
  have hS := sm_new (o := .lst ((srtN (nms (play k t (mid rs i x)).1)).map V.str)) hp
  have hlen := srtN_len (nms (play k t (mid rs i x)).1)
  rw [nms_len] at hlen
  refine lc_R (C := 0) (walk_list (xs := (srtN (nms (play k t (mid rs i x)).1)).map V.str)) (srtN (nms (play k t (mid rs i x)).1)) (fun y => decide (val (play k t rs).1 y < val (play k t (mid rs i x)).1 y)) id StrV stb_str (by simp) (by rw [List.length_map]; omega) hD (fun H' s => SqL.of (s _ _ upd_same)) (fun j y v H12 H13 F1 F0 hj s y' f1 f0 => ?_) fun ys H12 s12 hy q => ?_
  · obtain ⟨rfl, ev⟩ := y'
    rw [List.getElem?_map, hj] at ev
    cases ev
    have a1 := s _ _ (hS _ _ g3)
    have a2 := s _ _ (hS _ _ g1')
    have hx := lk_val (mem_srtN.mp (List.mem_of_getElem? hj))
    refine ⟨rfl, _, rfl, _, rfl, e2, _, rfl, dg (.inl a1) hx, _, rfl, e1, rfl, .inl ⟨_, .inl a2⟩, _, rfl, _, dgo (.inl a2), _, _, rfl, getD_val _ _, _, rfl, ?_⟩
    cases c : decide (val (play k t rs).1 y < val (play k t (mid rs i x)).1 y) with
    | false => exact iteF (f0 c _ (Same.refl _))
    | true => exact iteT ⟨_, rfl, f1 c _ _ (Same.refl _) rfl⟩
  · rw [List.map_id] at q
    have ey : ys = (hgS (play k t (mid rs i x)).1 (play k t rs).1).map V.str := pd_eq (h := V.str) q
    have s013 := s011.trans (hS.trans s12)
    refine ⟨_, rfl, Nat.zero_le _, fun z hz' => ?_⟩
    have s14 : Same H12 (upd H12 z (.lst [])) := sm_new hz'
    refine ⟨D, z, ys, rfl, rfl, SqL.of (s14 _ _ hy), SqL.of upd_same, _, rfl, ?_⟩
    rcases fin with ⟨he, fin⟩ | ⟨e, r, he, fin⟩
    · rw [ey, he]
      exact iteF ⟨by show 1 ≤ sizeLine; decide, fun q2 hq2 => fin _ _ (s013.trans (s14.trans (sm_new hq2))) ⟨q2, rfl, .inl (.inl upd_same)⟩⟩
    · rw [he] at ey
      have e1 : ys.isEmpty = false := by rw [ey]; rfl
      rw [e1]
      refine iteT ⟨_, rfl, D, ys, 0, .str e, rfl, rfl, SqL.of (s14 _ _ hy), atI_nat (j := 0) (by rw [ey]; rfl), by show 2 ≤ sizeLine; decide, fun q2 hq2 => ?_⟩
      exact fin _ _ (s013.trans (s14.trans (sm_new hq2))) ⟨q2, rfl, .inl (.inl upd_same)⟩
def spChanged : Sp := fun vs H Q _ => ∃ (hv cv : V) (k : Nat) (t : Tab) (o : Option Str), vs = [.int k, hv, cv] ∧ TupOf K (PrV K) H hv t ∧ Cn k t ∧ k ≤ 8 ∧ ChgV K H cv o ∧
  match o with
  | some x => ∀ u H', Same H H' → TupOf K (PrV K) H' u (flat (add t x 1)) → Q u H'
  | none => t.length = k ∧ ∀ u H', Same H H' → TupOf K (PrV K) H' u (low t 1) → Q u H'
theorem ok_lchanged (T : Tx w K mg) : Fn1 P w K mg base 2 "_law_changed" ["_law_width", "_law_held_here", "_law_change_here"] [] (spChanged (K := K)) := by
  refine T.E__law_changed (fun vs H Q E h => ?_) (fun cdv A outer s H vs Q E hr h => ?_)
  · obtain ⟨_, _, _, _, _, rfl, _⟩ := h
    rfl
  obtain ⟨hv, cv, k, t, o, rfl, ht, cn, hk8, ⟨cp, rfl, hc⟩, fin⟩ := h
  have hu := hu_of hr
  have tl := cn.len
  refine ⟨_, pss_cons (ps_set (i := 3) sc__law_changed.nd rfl (Or.inl rfl) (pe_f (ok_lheld T) hr (pa_cons (pv 1) pa_nil)))
    (pss_cons (ps_if (pt_cmpR op_eq (pe_ix ix_tup (pv 2) pe_int (fun _ _ => rfl)) pe_str (nomark _)) (pss_cons (ps_asg (pe_op op_add (pe_dget2 hu (pv 3) (pe_ix ix_tup (pv 2) pe_int (fun _ _ => rfl)) pe_int ⟨rfl, rfl, rfl, rfl⟩) pe_int) (pg_sub (pv 3) (pe_ix ix_tup (pv 2) pe_int (fun _ _ => rfl)) (set_dict hu)))
      (pss_one (ps_ret (pe_f (ok_lflat T) hr (pa_cons (pv 3) pa_nil))))) pss_nil)
    (pss_cons (ps_if (pt_cmpR op_ne (pe_callB call_len_seq rfl T.b_len bt_len (pa_cons (pv 1) pa_nil)) (pv 0) (nomark _)) (pss_one (ps_ret pe_non)) pss_nil)
    (pss_one (ps_ret (pe_callTy call_tuple_of rfl T.b_tuple bt_tuple (pa_cons (pe_lc (own := [("_law_word", 4), ("_law_many", 5)]) (g := gTup K 2 (gCons (gName 4) (gCons (gName 5) gNil))) rfl sc__law_changed.nd (pi_tup (pv 1)) (blkOk_by (N := n__law_changed) (sc := defScope s__law_changed) (by decide +kernel))
      (fun _ _ _ _ _ => pg_tup rfl (pgs_cons (pg_name (i := 4) sc__law_changed.nd rfl (Or.inl rfl)) (pgs_cons (pg_name (i := 5) sc__law_changed.nd rfl (Or.inl rfl)) pgs_nil))) (fun _ _ _ _ _ => pts_one (pt_cmpR op_gt (pv 5) pe_int (nomark _))) (fun _ _ _ _ _ => pe_tup (pa_cons (pv 4) (pa_cons (pe_op op_sub (pv 5) pe_int) pa_nil)))) pa_nil)))))), ?_⟩
  refine ⟨_, rfl, hv, t, rfl, ht, asc_nd cn.asc, by omega, fun d H1 s1 hdn h1 => ?_⟩
  have hc1 := st_sm s1 hc
  cases o with
  | some x =>
    refine ⟨_, rfl, cp, _, 0, _, rfl, rfl, hc1, atI_nat (j := 0) rfl, rfl, _, w_eq (b := true) (by decide +kernel), iteT ?_⟩
    refine ⟨_, rfl, d, rfl, .inl ⟨_, .inl h1⟩, _, rfl, cp, _, 1, _, rfl, rfl, hc1, atI_nat (j := 1) rfl, _, dgo (.inl h1), _, _, getD_val _ _, rfl, _, rfl, _, rfl, cp, _, 1, _, rfl, rfl, hc1, atI_nat (j := 1) rfl, d, _, rfl, DPut.k (k := .inr x) h1 (by rw [kd_len]; exact small1000 (by omega)), ?_⟩
    rw [kd_put]
    refine ⟨_, rfl, d, add t x 1, rfl, upd_same, by have := add_len t x 1; omega, fun u H2 s2 hu2 => fin u H2 ((sm_mut s1 hdn).trans s2) hu2⟩
  | none =>
    obtain ⟨hlen, fin⟩ := fin
    obtain ⟨a, xs, rfl, ha, pd⟩ := prs_same s1 ht
    have pl := pd_len pd
    refine ⟨_, rfl, cp, _, 0, _, rfl, rfl, hc1, atI_nat (j := 0) rfl, rfl, _, w_eq (b := false) (by decide +kernel), iteF ?_⟩
    refine ⟨_, rfl, a, xs, rfl, .inr ha, _, rfl, rfl, _, rfl, ?_⟩
    rw [decide_eq_true (show V.int (xs.length : Nat) = V.int (k : Nat) by rw [pl, hlen])]
    refine iteF ⟨_, rfl, a, rfl, ⟨xs, ha⟩, fun D hD => ?_⟩
    refine lc_R (C := 0) walk_tup t (fun q => decide (1 < q.2)) (fun q => (q.1, q.2 - 1)) (PrV K) stb_pr pl.symm (by omega) hD (fun H' s => st_sm s ha) (fun i q v H2 H3 F1 F0 hi s y f1 f0 => ?_) fun ys H2 s2 hy q => ?_
    · obtain ⟨rfl, ex⟩ := y
      obtain ⟨q', eq, b, rfl, hb⟩ := pd_get pd ex
      rw [hi] at eq
      cases eq
      refine ⟨b, _, rfl, st_sm s hb, rfl, _, _, rfl, _, _, rfl, rfl, rfl, _, rfl, _, _, rfl, rfl, _, rfl, ?_⟩
      cases c : decide ((1 : Int) < q.2) with
      | false => exact iteF (f0 c _ (Same.refl _))
      | true => exact iteT ⟨_, rfl, _, rfl, _, _, rfl, rfl, by show 2 ≤ sizeLine; decide, fun z hz => f1 c _ _ (sm_new hz) ⟨z, rfl, .inl (.inl upd_same)⟩⟩
    · refine ⟨D, ys, rfl, .inl ⟨SqL.of hy, fun l hl => ?_⟩⟩
      have s3 := sm_new (o := .tup ys) hl
      exact fin _ _ (s1.trans (s2.trans s3)) ⟨l, ys, rfl, .inl (.inl upd_same), pd_imp (fun _ _ h => stb_pr.sm (C := 0) s3 h) q⟩
end
end Kx
set_option Elab.async false
set_option linter.all false
set_option maxRecDepth 100000
set_option maxHeartbeats 4000000
namespace Kx
open PySem PySem.Spec PyProof.Rows L2
/-! ### the plain law: values of tables -/
theorem mem_val {k : Nat} {t : Tab} (h : Tk k t) {y : Str} : y ∈ nms t ↔ 1 ≤ val t y := by
  constructor
  · intro m
    obtain ⟨p, hp, e⟩ := List.mem_map.mp m
    have := val_mem h.nd hp
    have g := h.ge p hp
    rw [← e]
    omega
  · intro g
    by_cases m : y ∈ nms t
    · exact m
    · rw [val_fresh m] at g
      omega
theorem val_nn {k : Nat} {t : Tab} (h : Tk k t) (y : Str) : 0 ≤ val t y := val_ge h.ge
theorem put_self (t : Tab) (x : Str) (n : Int) : (x, n) ∈ put t x n := by
  unfold put
  split
  · rename_i h
    obtain ⟨p, hp, e⟩ := List.any_eq_true.mp h
    have e := of_decide_eq_true e
    exact List.mem_map.mpr ⟨p, hp, by rw [if_pos e, e]⟩
  · simp
theorem put_keep {t : Tab} {x : Str} {n : Int} {p : Str × Int} (h : p ∈ t) (ne : p.1 ≠ x) : p ∈ put t x n := by
  unfold put
  split
  · exact List.mem_map.mpr ⟨p, h, if_neg ne⟩
  · exact List.mem_append.mpr (.inl h)
theorem val_put {t : Tab} (nd : (nms t).Nodup) {x y : Str} {n : Int} : val (put t x n) y = if y = x then n else val t y := by
  have nd2 := put_nd (x := x) (n := n) nd
  by_cases e : y = x
  · rw [if_pos e, e]
    exact val_mem nd2 (put_self t x n)
  · rw [if_neg e]
    by_cases m : y ∈ nms t
    · obtain ⟨p, hp, rfl⟩ := List.mem_map.mp m
      rw [val_mem nd hp]
      exact val_mem nd2 (put_keep hp e)
    · rw [val_fresh m]
      refine val_fresh fun z => ?_
      rw [nms_put] at z
      split at z
      · exact m z
      · rcases List.mem_append.mp z with z | z
        · exact m z
        · exact e (List.mem_singleton.mp z)
theorem val_add {t : Tab} (nd : (nms t).Nodup) {x y : Str} {n : Int} : val (add t x n) y = if y = x then val t y + n else val t y := by
  unfold add
  rw [val_put nd]
  split
  · rename_i e
    rw [e]
  · rfl
theorem val_low {t : Tab} (nd : (nms t).Nodup) {y : Str} {s : Int} (h0 : 0 ≤ s) : val (low t s) y = if s < val t y then val t y - s else 0 := by
  by_cases m : y ∈ nms t
  · obtain ⟨p, hp, rfl⟩ := List.mem_map.mp m
    rw [val_mem nd hp]
    split
    · rename_i c
      exact val_mem (p := (p.1, p.2 - s)) (low_nd nd) (low_mem.mpr ⟨p, hp, c, rfl⟩)
    · rename_i c
      refine val_fresh fun z => ?_
      obtain ⟨q, hq, e⟩ := List.mem_map.mp z
      obtain ⟨r, hr, c2, rfl⟩ := low_mem.mp hq
      have e1 : r.1 = p.1 := e
      have := val_mem nd hr
      rw [e1, val_mem nd hp] at this
      omega
  · rw [val_fresh m, if_neg (by omega)]
    refine val_fresh fun z => m ?_
    obtain ⟨q, hq, e⟩ := List.mem_map.mp z
    obtain ⟨r, hr, c2, rfl⟩ := low_mem.mp hq
    exact List.mem_map.mpr ⟨r, hr, e⟩
/-- two valid tables of one value -/
theorem nms_perm {k j : Nat} {A B : Tab} (hA : Tk k A) (hB : Tk j B) (h : ∀ y, val A y = val B y) : (nms A).Perm (nms B) :=
  (List.perm_ext_iff_of_nodup hA.nd hB.nd).mpr fun y => by rw [mem_val hA, mem_val hB, h]
theorem flat_val {k j : Nat} {A B : Tab} (hA : Tk k A) (hB : Tk j B) (h : ∀ y, val A y = val B y) : flat A = flat B := by
  unfold flat
  rw [srtN_eq (nms_perm hA hB h)]
  exact List.map_congr_left fun y _ => by rw [h]
theorem mn_ge {t : Tab} (h : ∀ p ∈ t, 1 ≤ p.2) (ne : t ≠ []) : 1 ≤ mn t := by
  obtain ⟨p, hp, e⟩ := mn_mem ne
  have := h p hp
  omega
/-- one comes -/
theorem arr1_add {k : Nat} {t : Tab} {x : Str} (h : x ∈ nms t ∨ t.length < k) : arr k t x 1 = (add t x 1, 0) := by
  rw [arr_end (fun c => h.elim c.2.1 fun z => by have := c.2.2; omega)]
  rfl
theorem arr1_low {k : Nat} {t : Tab} {x : Str} (hk : 1 ≤ k) (ht : Tk k t) (h1 : x ∉ nms t) (h2 : t.length = k) : arr k t x 1 = (low t 1, 1) := by
  have ne : t ≠ [] := fun e => by
    rw [e] at h2
    simp at h2
    omega
  have := mn_ge ht.ge ne
  have e : min (1 : Int) (mn t) = 1 := by omega
  unfold arr
  rw [if_pos ⟨by decide, h1, h2⟩, e]
  rfl
theorem len_le {k j : Nat} {A B : Tab} (hA : Tk k A) (hB : Tk j B) (h : ∀ y, 1 ≤ val A y → 1 ≤ val B y) : A.length ≤ B.length := by
  have := nd_len hA.nd (m := nms B) fun y hy => (mem_val hB).mpr (h y ((mem_val hA).mp hy))
  rw [nms_len, nms_len] at this
  exact this
theorem len_lt {k j : Nat} {A B : Tab} (hA : Tk k A) (hB : Tk j B) {z : Str} (hz : val A z < 1) (hz2 : 1 ≤ val B z) (h : ∀ y, 1 ≤ val A y → 1 ≤ val B y) : A.length < B.length := by
  have nd : (z :: nms A).Nodup := List.nodup_cons.mpr ⟨fun m => by have := (mem_val hA).mp m; omega, hA.nd⟩
  have := nd_len nd (m := nms B) fun y hy => (mem_val hB).mpr (by
    rcases List.mem_cons.mp hy with rfl | hy
    · exact hz2
    · exact h y ((mem_val hA).mp hy))
  rw [List.length_cons, nms_len, nms_len] at this
  exact this
def Late (k : Nat) (A B : Tab) (a b : Int) : Prop := (∃ e, (∀ y, val A y = val B y + if y = e then 1 else 0) ∧ a = b) ∨ (B.length = k ∧ (∀ y, val A y = if 1 < val B y then val B y - 1 else 0) ∧ a = b + 1)
theorem late_step {k : Nat} {A B : Tab} {a b : Int} (hk : 1 ≤ k) (hA : Tk k A) (hB : Tk k B) (h : Late k A B a b) (y : Str) : Late k (arr k A y 1).1 (arr k B y 1).1 (a + (arr k A y 1).2) (b + (arr k B y 1).2) := by
  have lA := hA.len
  have lB := hB.len
  have nA := val_nn hA
  have nB := val_nn hB
  rcases h with ⟨e, hv, rfl⟩ | ⟨hl, hv, rfl⟩
  · have up : B.length ≤ A.length := len_le hB hA fun z hz => by rw [hv]; split <;> omega
    by_cases yB : y ∈ nms B ∨ B.length < k
    · rw [arr1_add yB]
      by_cases yA : y ∈ nms A ∨ A.length < k
      · rw [arr1_add yA]
        refine .inl ⟨e, fun z => ?_, rfl⟩
        rw [val_add hA.nd, val_add hB.nd, hv]
        split <;> omega
      · have y1 : y ∉ nms A := fun m => yA (.inl m)
        have y2 : A.length = k := by
          have : ¬ A.length < k := fun m => yA (.inr m)
          omega
        rw [arr1_low hk hA y1 y2]
        have vA : ¬ 1 ≤ val A y := fun m => y1 ((mem_val hA).mpr m)
        have vB : ¬ 1 ≤ val B y := fun m => vA (by rw [hv]; split <;> omega)
        have bl : B.length < k := yB.elim (fun m => absurd ((mem_val hB).mp m) vB) id
        have eB : ¬ 1 ≤ val B e := fun m => by
          have := len_le hA hB fun z hz => by
            rw [hv] at hz
            split at hz
            · rename_i q
              rw [q]
              exact m
            · omega
          omega
        have yB0 := nB y
        have ney : y ≠ e := fun q => by
          rw [hv, if_pos q] at vA
          omega
        refine .inr ⟨?_, fun z => ?_, by omega⟩
        · show (add B y 1).length = k
          have e1 : (add B y 1).length ≤ B.length + 1 := add_len ..
          have e2 := len_lt hB (add_tk (x := y) (n := 1) hB (by decide) (.inr bl)) (z := y) (by omega) (by rw [val_add hB.nd, if_pos rfl]; omega) fun z hz => by rw [val_add hB.nd]; split <;> omega
          have e3 : A.length ≤ B.length + 1 := by
            have := nd_len hA.nd (m := e :: nms B) fun z hz => by
              have := (mem_val hA).mp hz
              rw [hv] at this
              split at this
              · rename_i q
                rw [q]
                exact .head _
              · exact .tail _ ((mem_val hB).mpr (by omega))
            rw [nms_len, List.length_cons, nms_len] at this
            exact this
          omega
        · show val (low A 1) z = if 1 < val (add B y 1) z then val (add B y 1) z - 1 else 0
          rw [val_low hA.nd (by decide), val_add hB.nd, hv]
          have n1 := nB z
          have n2 := nB e
          by_cases q1 : z = e
          · have q3 : ¬ (e = y) := fun q => ney q.symm
            rw [if_pos q1, q1, if_neg q3]
            split <;> split <;> omega
          · rw [if_neg q1]
            by_cases q2 : z = y
            · rw [if_pos q2, q2]
              split <;> split <;> omega
            · rw [if_neg q2]
              split <;> split <;> omega
    · have y1 : y ∉ nms B := fun m => yB (.inl m)
      have y2 : B.length = k := by
        have : ¬ B.length < k := fun m => yB (.inr m)
        omega
      have vB : ¬ 1 ≤ val B y := fun m => y1 ((mem_val hB).mpr m)
      have eB : 1 ≤ val B e := by
        rcases Int.lt_or_le (val B e) 1 with q | q
        · have := len_lt hB hA (z := e) q (by rw [hv, if_pos rfl]; have := nB e; omega) fun z hz => by rw [hv]; split <;> omega
          omega
        · exact q
      have ney : y ≠ e := fun q => vB (q ▸ eB)
      have yA : y ∉ nms A := fun m => by
        have := (mem_val hA).mp m
        rw [hv, if_neg ney] at this
        omega
      rw [arr1_low hk hB y1 y2, arr1_low hk hA yA (by omega)]
      refine .inl ⟨e, fun z => ?_, rfl⟩
      rw [val_low hA.nd (by decide), val_low hB.nd (by decide), hv]
      have n1 := nB z
      by_cases q1 : z = e
      · rw [if_pos q1, q1]
        split <;> split <;> omega
      · rw [if_neg q1]
        split <;> split <;> omega
  · have up : A.length ≤ B.length := len_le hA hB fun z hz => by
      rw [hv] at hz
      split at hz <;> omega
    by_cases yB : y ∈ nms B
    · have vB := (mem_val hB).mp yB
      have yA : y ∈ nms A ∨ A.length < k := by
        rcases Int.lt_or_le (val A y) 1 with q | q
        · have := len_lt hA hB (z := y) q vB fun z hz => by
            rw [hv] at hz
            split at hz <;> omega
          exact .inr (by omega)
        · exact .inl ((mem_val hA).mpr q)
      rw [arr1_add (.inl yB), arr1_add yA]
      have hB2 := add_tk (x := y) (n := 1) hB (by decide) (.inl yB)
      refine .inr ⟨?_, fun z => ?_, by show b + 1 + 0 = b + 0 + 1; omega⟩
      · show (add B y 1).length = k
        have e2 := len_le hB hB2 fun z hz => by rw [val_add hB.nd]; split <;> omega
        have := hB2.len
        omega
      · show val (add A y 1) z = if 1 < val (add B y 1) z then val (add B y 1) z - 1 else 0
        rw [val_add hA.nd, val_add hB.nd, hv]
        by_cases q2 : z = y
        · rw [if_pos q2, if_pos q2, q2]
          split <;> split <;> omega
        · rw [if_neg q2, if_neg q2]
    · have vB : ¬ 1 ≤ val B y := fun m => yB ((mem_val hB).mpr m)
      have yA : y ∉ nms A := fun m => by
        have := (mem_val hA).mp m
        rw [hv] at this
        split at this <;> omega
      have z0 := nB y
      rw [arr1_low hk hB yB hl]
      rcases Nat.lt_or_ge A.length k with lt | ge
      · rw [arr1_add (.inr lt)]
        refine .inl ⟨y, fun z => ?_, by show b + 1 + 0 = b + 1; omega⟩
        rw [val_add hA.nd, val_low hB.nd (by decide), hv]
        split <;> split <;> omega
      · rw [arr1_low hk hA yA (by omega)]
        have same : ∀ z, val A z = val (low B 1) z := fun z => by rw [hv, val_low hB.nd (by decide)]
        refine .inr ⟨?_, fun z => ?_, rfl⟩
        · show (low B 1).length = k
          have e2 := len_le hA (low_tk (s := 1) hB) fun z hz => by rw [← same]; exact hz
          have := (low_tk (s := 1) hB).len
          omega
        · show val (low A 1) z = if 1 < val (low B 1) z then val (low B 1) z - 1 else 0
          rw [val_low hA.nd (by decide), same]
end Kx
set_option Elab.async false
set_option linter.all false
set_option maxRecDepth 100000
set_option maxHeartbeats 4000000
namespace Kx
open PySem PySem.Spec PyProof.Rows L2
theorem put_in {t : Tab} {x : Str} {n : Int} (h : x ∈ nms t) : put t x n = t.map fun p => if p.1 = x then (p.1, n) else p := by
  unfold put
  obtain ⟨p, hp, e⟩ := List.mem_map.mp h
  rw [if_pos (List.any_eq_true.mpr ⟨p, hp, decide_eq_true e⟩)]
theorem put_put {t : Tab} {x : Str} {m n : Int} : put (put t x m) x n = put t x n := by
  have hx : x ∈ nms (put t x m) := List.mem_map.mpr ⟨_, put_self t x m, rfl⟩
  rw [put_in hx]
  by_cases h : x ∈ nms t
  · rw [put_in h, put_in h, List.map_map]
    refine List.map_congr_left fun p _ => ?_
    show (if (if p.1 = x then (p.1, m) else p).1 = x then _ else _) = _
    by_cases e : p.1 = x
    · rw [if_pos e]
      simp [e]
    · rw [if_neg e, if_neg e, if_neg e]
  · rw [put_fresh h, put_fresh h, List.map_append]
    congr 1
    · conv => rhs; rw [← List.map_id t]
      refine List.map_congr_left fun p hp => ?_
      rw [if_neg (fun e => h (List.mem_map.mpr ⟨p, hp, e⟩))]
      rfl
    · simp
theorem add_add {t : Tab} (nd : (nms t).Nodup) {x : Str} {m n : Int} : add (add t x m) x n = add t x (m + n) := by
  show put (add t x m) x (val (add t x m) x + n) = _
  rw [val_add nd, if_pos rfl]
  show put (put t x (val t x + m)) x _ = put t x (val t x + (m + n))
  rw [put_put, Int.add_assoc]
theorem low_low {t : Tab} {s r : Int} (hs : 0 ≤ s) (hr : 0 ≤ r) : low (low t s) r = low t (s + r) := by
  unfold low
  rw [List.filter_map, List.map_map, List.filter_filter]
  have e : (fun p : Str × Int => (((fun q : Str × Int => decide (r < q.2)) ∘ fun p : Str × Int => (p.1, p.2 - s)) p && decide (s < p.2))) = fun p => decide (s + r < p.2) := by
    funext p
    show (decide (r < p.2 - s) && decide (s < p.2)) = _
    rw [← Bool.decide_and]
    exact decide_eq_decide.mpr ⟨fun h => by omega, fun h => by omega⟩
  rw [e]
  refine List.map_congr_left fun p _ => ?_
  show (p.1, p.2 - s - r) = (p.1, p.2 - (s + r))
  rw [Int.sub_sub]
end Kx
set_option Elab.async false
set_option linter.all false
set_option maxRecDepth 100000
set_option maxHeartbeats 4000000
namespace Kx
open PySem PySem.Spec PyProof.Rows L2
theorem arr_in {k : Nat} {t : Tab} {x : Str} {n : Int} (hn : 0 < n) (h : ¬ (x ∉ nms t ∧ t.length = k)) : arr k t x n = (add t x n, 0) := by
  rw [arr_end (fun c => h c.2), if_pos hn]
theorem arr_red {k : Nat} {t : Tab} {x : Str} {n : Int} (hn : 0 < n) (c1 : x ∉ nms t) (c2 : t.length = k) : arr k t x n = (if 0 < n - min n (mn t) then add (low t (min n (mn t))) x (n - min n (mn t)) else low t (min n (mn t)), min n (mn t)) := by
  rw [arr, if_pos ⟨hn, c1, c2⟩]
/-- one comes, then n -/
theorem arr_succ {k : Nat} {t : Tab} {x : Str} {n : Int} (hk : 1 ≤ k) (ht : Tk k t) (hn : 1 ≤ n) : arr k t x (1 + n) = ((arr k (arr k t x 1).1 x n).1, (arr k t x 1).2 + (arr k (arr k t x 1).1 x n).2) := by
  have lt0 := ht.len
  by_cases c : x ∉ nms t ∧ t.length = k
  · obtain ⟨c1, c2⟩ := c
    rw [arr1_low hk ht c1 c2]
    have ne : t ≠ [] := fun e => by
      rw [e] at c2
      simp at c2
      omega
    have m1 := mn_ge ht.ge ne
    have cx : x ∉ nms (low t 1) := fun m => c1 (nms_low.subset m)
    show arr k t x (1 + n) = ((arr k (low t 1) x n).1, 1 + (arr k (low t 1) x n).2)
    rw [arr_red (t := t) (by omega) c1 c2]
    by_cases m : mn t = 1
    · obtain ⟨p, hp, e⟩ := mn_mem ne
      have lt := low_lt (s := 1) ⟨p, hp, by omega⟩
      have e1 : min (1 + n) (mn t) = 1 := by omega
      rw [arr_in (t := low t 1) (by omega) (fun z => by have := z.2; omega), e1, if_pos (by omega), show 1 + n - 1 = n by omega]
      rfl
    · have all : ∀ p ∈ t, 1 < p.2 := fun p hp => by
        have := mn_le hp
        omega
      have ll : (low t 1).length = t.length := by rw [low_all all, List.length_map]
      have ne2 : low t 1 ≠ [] := fun e => by
        rw [e] at ll
        simp at ll
        omega
      obtain ⟨p, hp, e⟩ := mn_mem ne
      have me : mn t - 1 = mn (low t 1) := mn_eq ne2 (by
        rw [low_all all, List.map_map]
        exact List.mem_map.mpr ⟨p, hp, by show p.2 - 1 = _; omega⟩) fun y hy => by
        obtain ⟨q, hq, rfl⟩ := List.mem_map.mp hy
        obtain ⟨r, hr, _, rfl⟩ := low_mem.mp hq
        have := mn_le hr
        show mn t - 1 ≤ r.2 - 1
        omega
      rw [arr_red (t := low t 1) (by omega) cx (by omega), ← me, low_low (by decide) (by omega)]
      have e1 : 1 + min n (mn t - 1) = min (1 + n) (mn t) := by omega
      have e2 : n - min n (mn t - 1) = 1 + n - min (1 + n) (mn t) := by omega
      rw [e1, e2]
  · have c' : x ∈ nms t ∨ t.length < k := by
      by_cases h : x ∈ nms t
      · exact .inl h
      · refine .inr ?_
        have : ¬ t.length = k := fun e => c ⟨h, e⟩
        omega
    rw [arr1_add c', arr_in (by omega) c]
    show _ = ((arr k (add t x 1) x n).1, 0 + (arr k (add t x 1) x n).2)
    rw [arr_in (t := add t x 1) (by omega) (fun z => z.1 (List.mem_map.mpr ⟨_, put_self t x _, rfl⟩)), add_add ht.nd]
    rfl
/-- what a single arrival keeps, many keep -/
theorem arr_two {k : Nat} {R : Tab → Tab → Int → Int → Prop} (hk : 1 ≤ k) (x : Str) (hR : ∀ A B a b, Tk k A → Tk k B → R A B a b → R (arr k A x 1).1 (arr k B x 1).1 (a + (arr k A x 1).2) (b + (arr k B x 1).2)) :
    ∀ (m : Nat) (A B : Tab) (a b : Int), Tk k A → Tk k B → R A B a b → R (arr k A x ((m : Int) + 1)).1 (arr k B x ((m : Int) + 1)).1 (a + (arr k A x ((m : Int) + 1)).2) (b + (arr k B x ((m : Int) + 1)).2)
  | 0, A, B, a, b, hA, hB, h => hR A B a b hA hB h
  | m + 1, A, B, a, b, hA, hB, h => by
    have e : ((m + 1 : Nat) : Int) + 1 = 1 + ((m : Int) + 1) := by omega
    rw [e, arr_succ hk hA (by omega), arr_succ hk hB (by omega)]
    have := arr_two hk x hR m _ _ _ _ (arr_tk hk hA (by decide)) (arr_tk hk hB (by decide)) (hR A B a b hA hB h)
    rw [Int.add_assoc, Int.add_assoc] at this
    exact this
theorem arr_rel {k : Nat} {R : Tab → Tab → Int → Int → Prop} (hk : 1 ≤ k) (x : Str) (hR : ∀ A B a b, Tk k A → Tk k B → R A B a b → R (arr k A x 1).1 (arr k B x 1).1 (a + (arr k A x 1).2) (b + (arr k B x 1).2)) {n : Int} (hn : 1 ≤ n) {A B : Tab} {a b : Int} (hA : Tk k A) (hB : Tk k B) (h : R A B a b) :
    R (arr k A x n).1 (arr k B x n).1 (a + (arr k A x n).2) (b + (arr k B x n).2) := by
  have := arr_two hk x hR (n - 1).toNat A B a b hA hB h
  rw [show (((n - 1).toNat : Nat) : Int) + 1 = n by omega] at this
  exact this
theorem len_eq {k j : Nat} {A B : Tab} (hA : Tk k A) (hB : Tk j B) (h : ∀ y, val A y = val B y) : A.length = B.length :=
  Nat.le_antisymm (len_le hA hB fun y hy => h y ▸ hy) (len_le hB hA fun y hy => (h y).symm ▸ hy)
theorem arr1_val {k : Nat} {A B : Tab} (hk : 1 ≤ k) (hA : Tk k A) (hB : Tk k B) (h : ∀ y, val A y = val B y) (x y : Str) : val (arr k A x 1).1 y = val (arr k B x 1).1 y := by
  have l := len_eq hA hB h
  have la := hA.len
  have mm : x ∈ nms A ↔ x ∈ nms B := by rw [mem_val hA, mem_val hB, h]
  by_cases c : x ∈ nms A ∨ A.length < k
  · rw [arr1_add c, arr1_add (c.elim (fun m => .inl (mm.mp m)) fun m => .inr (by omega))]
    show val (add A x 1) y = val (add B x 1) y
    rw [val_add hA.nd, val_add hB.nd, h]
  · have c1 : x ∉ nms A := fun m => c (.inl m)
    have c2 : A.length = k := by
      have : ¬ A.length < k := fun m => c (.inr m)
      omega
    rw [arr1_low hk hA c1 c2, arr1_low hk hB (fun m => c1 (mm.mpr m)) (by omega)]
    show val (low A 1) y = val (low B 1) y
    rw [val_low hA.nd (by decide), val_low hB.nd (by decide), h]
theorem arr_val {k : Nat} {A B : Tab} {n : Int} (hk : 1 ≤ k) (hn : 1 ≤ n) (hA : Tk k A) (hB : Tk k B) (h : ∀ y, val A y = val B y) (x : Str) : ∀ y, val (arr k A x n).1 y = val (arr k B x n).1 y :=
  arr_rel (R := fun A B _ _ => ∀ y, val A y = val B y) hk x (fun A B _ _ hA hB h => arr1_val hk hA hB h x) hn (a := 0) (b := 0) hA hB h
theorem arr_late {k : Nat} {A B : Tab} {a b n : Int} (hk : 1 ≤ k) (hn : 1 ≤ n) (hA : Tk k A) (hB : Tk k B) (h : Late k A B a b) (x : Str) : Late k (arr k A x n).1 (arr k B x n).1 (a + (arr k A x n).2) (b + (arr k B x n).2) :=
  arr_rel (R := Late k) hk x (fun A B a b hA hB h => late_step hk hA hB h x) hn hA hB h
abbrev plf (k : Nat) (a : Tab × Int) (r : Str × Int) : Tab × Int := ((arr k a.1 r.1 r.2).1, a.2 + (arr k a.1 r.1 r.2).2)
theorem play_app {k : Nat} {t r s : Tab} : play k t (r ++ s) = s.foldl (plf k) (play k t r) := by
  unfold play
  rw [List.foldl_append]
theorem fold_late {k : Nat} (hk : 1 ≤ k) : ∀ (rs A B : Tab) (a b : Int), (∀ r ∈ rs, 1 ≤ r.2) → Tk k A → Tk k B → Late k A B a b → Late k (rs.foldl (plf k) (A, a)).1 (rs.foldl (plf k) (B, b)).1 (rs.foldl (plf k) (A, a)).2 (rs.foldl (plf k) (B, b)).2
  | [], _, _, _, _, _, _, _, h => h
  | r :: rs, A, B, a, b, hr, hA, hB, h => by
    have h1 := hr r (.head _)
    exact fold_late hk rs _ _ _ _ (fun q hq => hr q (.tail _ hq)) (arr_tk hk hA (by omega)) (arr_tk hk hB (by omega)) (arr_late hk h1 hA hB h r.1)
theorem late_first {k : Nat} {t : Tab} {a : Int} {x : Str} (hk : 1 ≤ k) (ht : Tk k t) : Late k (arr k t x 1).1 t (a + (arr k t x 1).2) a := by
  have la := ht.len
  by_cases c : x ∈ nms t ∨ t.length < k
  · rw [arr1_add c]
    refine .inl ⟨x, fun y => ?_, by show a + 0 = a; omega⟩
    rw [val_add ht.nd]
    split <;> omega
  · have c1 : x ∉ nms t := fun m => c (.inl m)
    have c2 : t.length = k := by
      have : ¬ t.length < k := fun m => c (.inr m)
      omega
    rw [arr1_low hk ht c1 c2]
    exact .inr ⟨c2, fun y => val_low ht.nd (by decide), rfl⟩
theorem late_play {k : Nat} {t rs : Tab} {i : Nat} {x : Str} (hk : 1 ≤ k) (ht : Tk k t) (hr : ∀ r ∈ rs, 1 ≤ r.2) : Late k (play k t (mid rs i x)).1 (play k t rs).1 (play k t (mid rs i x)).2 (play k t rs).2 := by
  have tk := play_tk hk (fun r h => hr r (List.mem_of_mem_take (i := i) h)) ht
  have e2 : play k t rs = (rs.drop i).foldl (plf k) (play k t (rs.take i)) := by rw [← play_app, List.take_append_drop]
  have e1 : play k t (mid rs i x) = (rs.drop i).foldl (plf k) (plf k (play k t (rs.take i)) (x, 1)) := by
    unfold mid
    rw [play_app, play_app]
    rfl
  rw [e1, e2]
  exact fold_late hk (rs.drop i) _ _ _ _ (fun r h => hr r (List.mem_of_mem_drop h)) (arr_tk hk tk (show (0 : Int) ≤ 1 by decide)) tk (late_first hk tk)
/-! ### flat -/
theorem val_flat {t : Tab} (nd : (nms t).Nodup) (y : Str) : val (flat t) y = val t y := by
  have nd2 := asc_nd (flat_asc nd)
  by_cases m : y ∈ nms t
  · obtain ⟨p, hp, rfl⟩ := List.mem_map.mp m
    rw [val_mem nd hp, val_mem nd2 ((flat_mem nd).mpr hp)]
  · rw [val_fresh m, val_fresh fun z => m (by rw [nms_flat] at z; exact mem_srtN.mp z)]
theorem flat_tk {k : Nat} {t : Tab} (h : Tk k t) : Tk k (flat t) := ⟨asc_nd (flat_asc h.nd), fun p hp => h.ge p ((flat_mem h.nd).mp hp), by rw [flat_len]; exact h.len⟩
theorem cur_fold {k : Nat} (hk : 1 ≤ k) : ∀ (rs s t : Tab) (d : Int), Tk k t → s = flat t → (∀ r ∈ rs, 1 ≤ r.2) → (runs rs).foldl (step k) s = flat (rs.foldl (plf k) (t, d)).1
  | [], _, _, _, _, e, _ => e
  | r :: rs, s, t, d, ht, e, h => by
    have h1 := h r (.head _)
    refine cur_fold hk rs (arv k s r.1 r.2) (arr k t r.1 r.2).1 _ (arr_tk hk ht (by omega)) ?_ fun q hq => h q (.tail _ hq)
    rw [e]
    exact flat_val (arr_tk hk (flat_tk ht) (by omega)) (arr_tk hk ht (by omega)) (arr_val hk h1 (flat_tk ht) ht (val_flat ht.nd) r.1)
theorem cur_play {k : Nat} {t rs : Tab} (hk : 1 ≤ k) (cn : Cn k t) (h : ∀ r ∈ rs, 1 ≤ r.2) : cur k (t, runs rs) = flat (play k t rs).1 := cur_fold hk rs t t 0 cn.tk (flat_id cn.asc).symm h
/-! ### what one more changes -/
theorem hgh_one {k : Nat} {A B : Tab} {e : Str} (hA : Tk k A) (hB : Tk k B) (h : ∀ y, val A y = val B y + if y = e then 1 else 0) : ∃ q r, hgh A B = q :: r ∧ q.1 = e := by
  have ine : e ∈ nms A := (mem_val hA).mpr (by
    have := val_nn hB e
    rw [h, if_pos rfl]
    omega)
  obtain ⟨p, hp, pe⟩ := List.mem_map.mp ine
  have mem : p ∈ hgh A B := List.mem_filter.mpr ⟨hp, decide_eq_true (by
    have := val_mem hA.nd hp
    rw [h, pe, if_pos rfl] at this
    rw [pe]
    omega)⟩
  have all : ∀ q ∈ hgh A B, q.1 = e := fun q hq => by
    obtain ⟨h1, h2⟩ := List.mem_filter.mp hq
    have h2 := of_decide_eq_true h2
    have := val_mem hA.nd h1
    rw [h] at this
    by_cases c : q.1 = e
    · exact c
    · rw [if_neg c] at this
      omega
  cases eh : hgh A B with
  | nil => rw [eh] at mem; cases mem
  | cons q r => exact ⟨q, r, rfl, all q (by rw [eh]; exact .head _)⟩
theorem hgS_one {k : Nat} {A B : Tab} {e : Str} (hA : Tk k A) (hB : Tk k B) (h : ∀ y, val A y = val B y + if y = e then 1 else 0) : ∃ r, hgS A B = e :: r := by
  have ine : e ∈ nms A := (mem_val hA).mpr (by
    have := val_nn hB e
    rw [h, if_pos rfl]
    omega)
  have mem : e ∈ hgS A B := List.mem_filter.mpr ⟨mem_srtN.mpr ine, decide_eq_true (by rw [h, if_pos rfl]; omega)⟩
  have all : ∀ q ∈ hgS A B, q = e := fun q hq => by
    obtain ⟨h1, h2⟩ := List.mem_filter.mp hq
    have h2 := of_decide_eq_true h2
    rw [h] at h2
    by_cases c : q = e
    · exact c
    · rw [if_neg c] at h2
      omega
  cases eh : hgS A B with
  | nil => rw [eh] at mem; cases mem
  | cons q r =>
    have := all q (by rw [eh]; exact .head _)
    rw [this]
    exact ⟨r, rfl⟩
theorem hgS_none {A B : Tab} (h : ∀ y, val A y ≤ val B y) : hgS A B = [] := List.filter_eq_nil_iff.mpr fun y _ => by
  have := h y
  rw [decide_eq_true_eq]
  omega
def LateR (k : Nat) (t rs : Tab) (i : Nat) (x : Str) : Prop :=
  (∃ e, ¬ (play k t rs).2 < (play k t (mid rs i x)).2 ∧ (∃ q r, hgh (play k t (mid rs i x)).1 (play k t rs).1 = q :: r ∧ q.1 = e) ∧ (∃ r, hgS (play k t (mid rs i x)).1 (play k t rs).1 = e :: r) ∧ flat (add (flat (play k t rs).1) e 1) = flat (play k t (mid rs i x)).1) ∨
  ((play k t rs).2 < (play k t (mid rs i x)).2 ∧ hgS (play k t (mid rs i x)).1 (play k t rs).1 = [] ∧ (flat (play k t rs).1).length = k ∧ low (flat (play k t rs).1) 1 = flat (play k t (mid rs i x)).1)
theorem mid_ge {rs : Tab} {i : Nat} {x : Str} (hr : ∀ r ∈ rs, 1 ≤ r.2) : ∀ r ∈ mid rs i x, 1 ≤ r.2 := fun r h => by
  rcases List.mem_append.mp h with z | z
  · rcases List.mem_append.mp z with y | y
    · exact hr r (List.mem_of_mem_take y)
    · rw [List.mem_singleton.mp y]
      exact Int.le_refl _
  · exact hr r (List.mem_of_mem_drop z)
theorem late_r {k : Nat} {t rs : Tab} {i : Nat} {x : Str} (hk : 1 ≤ k) (ht : Tk k t) (hr : ∀ r ∈ rs, 1 ≤ r.2) : LateR k t rs i x := by
  have hA := play_tk hk (mid_ge (i := i) (x := x) hr) ht
  have hB := play_tk hk hr ht
  rcases late_play (i := i) (x := x) hk ht hr with ⟨e, hv, hl⟩ | ⟨hlen, hv, hl⟩
  · refine .inl ⟨e, by omega, hgh_one hA hB hv, hgS_one hA hB hv, ?_⟩
    have hF := flat_tk hB
    refine flat_val (k := k + 1) (add_tk ⟨hF.nd, hF.ge, Nat.le_succ_of_le hF.len⟩ (by decide) (.inr (Nat.lt_succ_of_le hF.len))) hA fun y => ?_
    rw [val_add hF.nd, val_flat hB.nd, hv]
    split <;> omega
  · have hF := flat_tk hB
    have nn := val_nn hB
    refine .inr ⟨by omega, hgS_none fun y => ?_, by rw [flat_len, hlen], ?_⟩
    · have := nn y
      rw [hv]
      split <;> omega
    · have asc : (nms (low (flat (play k t rs).1) 1)).Pairwise fun a b => a.cps.toList < b.cps.toList := (flat_asc hB.nd).sublist nms_low
      rw [← flat_id asc]
      refine flat_val (low_tk hF) hA fun y => ?_
      rw [val_low hF.nd (by decide), val_flat hB.nd, hv]
end Kx
set_option Elab.async false
set_option linter.all false
set_option maxRecDepth 100000
set_option maxHeartbeats 4000000
namespace Kx
open PySem PySem.Spec PyProof.Rows L2
/-! ### repr of tuples with own instances within -/
/-- a value's text under repr at heap G, the tuples at as not being under way -/
def RpV (X : Cx) (n : Nat) (G : Hp) (as : List Addr) (v : V) (t : Str) : Prop :=
  ∀ (base : Nat) (A : Around) (g : List Code) (pins : List (Addr × Obj)) (s : Shared) (σ : L2.St) (H : Hp) (u : Value) (Q : Str → Shared → Prop), base + t.length ≤ sizeLine → A.guards = some g → (∀ b ∈ as, Clear g b) → Sub X n A → Inv X pins σ H s → RelV v u → Same G H →
    (∀ s' H', Inv X pins σ H' s' → Same H H' → Q t s') → wpAny (model X.prog X.w) A (pyReprUnder base u) Q X.xe s
section
variable {X : Cx} {n m : Nat} {G : Hp} {as bs : List Addr} {v : V} {t : Str} {C : Addr} {sp : Sp}
theorem RpV.more (h : RpV X n G as v t) (hm : n ≤ m) (hs : ∀ b ∈ as, b ∈ bs) : RpV X m G bs v t :=
  fun base A g pins s σ H u Q hb hg hc sb I r k q => h base A g pins s σ H u Q hb hg (fun b z => hc b (hs b z)) (sb.mono hm) I r k q
theorem rp_int {i : Int} (hi : i.natAbs.log2 < 1920) : RpV X n G [] (.int i) (toString i) := fun base A g pins s σ H u Q hb hg hc sb I r k q => by
  obtain ⟨t, rfl⟩ := r
  exact ReprIs.int t hi base hb A _ s Q fun tk => q _ H (I.tok tk) (Same.refl _)
theorem rp_str {x : Str} (hx : (reprText x).length ≤ sizeLine) : RpV X n G [] (.str x) (reprText x) := fun base A g pins s σ H u Q hb hg hc sb I r k q => by
  obtain ⟨t, rfl⟩ := r
  exact ReprIs.str x t hx base hb A _ s Q fun tk => q _ H (I.tok tk) (Same.refl _)
/-- an own instance -/
theorem rp_own (O : Own X n C "__repr__" sp) {a dx : Addr} {fs : List (Str × V)} (ha : G a = some (.ins C dx fs))
    (hq : ∀ H (Q : VK), Same G H → (∀ H', Same H H' → Q (.str t) H') → sp [.ref a] H Q E0) : RpV X n G [] (.ref a) t := fun base A g pins s σ H u Q hb hg hc sb I r k q => by
  obtain ⟨f, fd, ps, F, hs, hf, hb'⟩ := O.ex
  cases r
  have ha' := k _ _ ha
  obtain ⟨ox, od, J⟩ := own_look I ha'
  obtain ⟨mm, hF⟩ := I.fr
  have XK := I.ok.mod.kin.keeps hF.keep
  refine wpAny_pyReprUnder_ref (by omega) ?_
  unfold pyReprObjUnder pyReprObjBy
  refine wpAny_bind (wpAny_cRoomFor sb.room.units0 ?_)
  refine wpAny_bind (wpAny_bind (J.type.here ((PySem.W.looks_findIn XK hs).here ?_)))
  show wpAny _ _ (if (some (Value.ref f)).isNone = true then _ else _) _ _ _
  rw [if_neg (by simp)]
  have fin : wpAny (model X.prog X.w) A (call (.ref f) ([Value.ref a] ++ []) >>= fun v => pure (some v)) (fun r s' => ∃ y tk, r = some (.str y tk) ∧ Q y s') X.xe s := by
    refine wpAny_bind (wpAny_mono (run_own F hb' sb I (vs := [.ref a]) (.cons rfl .nil) (hq H (fun v H' => v = .str t ∧ Same H H') k fun H' z => ⟨rfl, z⟩)) (fun v s' z => ?_) fun _ _ e => e)
    obtain ⟨x, H', I', rx, rfl, z⟩ := z
    obtain ⟨tk, rfl⟩ := rx
    exact wpAny_pure ⟨_, _, rfl, q _ _ I' z⟩
  refine wpAny_bind (wpAny_mono (Q := fun r s' => ∃ y tk, r = some (.str y tk) ∧ Q y s') ?_ (fun r s' z => ?_) fun _ _ e => e)
  · simp only [callSpecialIfBoundBy?, bindSpecialIfBound?]
    refine wpAny_holding (wpAny_bind (wpAny_bind (wpAny_bind (J.type.here ((PySem.W.looks_findIn XK hs).here ?_)))))
    refine wpAny_bind (wpAny_askSetting (wpAny_ite ?_))
    split
    · exact wpAny_bind ((PySem.W.bind_fn XK _ (beq_iff_eq.mp hf)).here (wpAny_pure (by exact fin)))
    · exact wpAny_tryCatch (wpAny_bind ((PySem.W.bind_fn XK _ (beq_iff_eq.mp hf)).here (wpAny_pure (by exact fin))))
  · obtain ⟨y, tk, rfl, z⟩ := z
    exact wpAny_bind (wpAny_isInstance (T := "str") (b := true) rfl isSubtype_str_str (wpAny_pure ⟨_, _, rfl, z⟩))
/-- all of them -/
inductive RpA (X : Cx) (n : Nat) (G : Hp) (as : List Addr) : List V → List Str → Prop
  | nil : RpA X n G as [] []
  | cons {v : V} {t : Str} {vs : List V} {ts : List Str} : RpV X n G as v t → RpA X n G as vs ts → RpA X n G as (v :: vs) (t :: ts)
theorem RpA.len : ∀ {vs : List V} {ts : List Str}, RpA X n G as vs ts → ts.length = vs.length
  | _, _, .nil => rfl
  | _, _, .cons _ h => by simp [h.len]
theorem rp_fold {A : Around} {g : List Code} {pins : List (Addr × Obj)} {σ : L2.St} (hg : A.guards = some g) (hc : ∀ b ∈ as, Clear g b) (sb : Sub X n A) : ∀ (vs : List V) (us : List Value) (ts : List Str) (acc : Array Str) (k : Nat) (s : Shared) (H : Hp) (Q : (Array Str × Nat) → Shared → Prop), RpA X n G as vs ts → Vals vs us → k + piled ts ≤ sizeLine → Inv X pins σ H s → Same G H →
    (∀ s' H', Inv X pins σ H' s' → Same H H' → Q ⟨acc ++ ts.toArray, k + piled ts⟩ s') → wpAny (model X.prog X.w) A (forIn us (⟨acc, k⟩ : (Array Str × Nat)) tupBody) Q X.xe s := by
  intro vs
  induction vs with
  | nil =>
    intro us ts acc k s H Q hT r hk I sm q
    cases r
    cases hT
    have q0 := q s H I (Same.refl _)
    simp only [List.forIn_nil]
    exact wpAny_pure (by simpa [piled] using q0)
  | cons v vs ih =>
    intro us ts acc k s H Q hT r hk I sm q
    cases r with
    | cons r1 r2 =>
      cases hT with
      | cons h1 h2 =>
        rename_i u us' t ts'
        have ep : piled (t :: ts') = t.length + 2 + piled ts' := piled_cons ..
        rw [List.forIn_cons]
        refine wpAny_bind (wpAny_bind (h1 (k + 1) A g pins s σ H _ _ (by omega) hg hc sb I r1 sm fun s1 H1 I1 k1 => wpAny_pure ?_))
        refine ih _ ts' (acc.push t) (k + (t.length + 2)) s1 H1 Q h2 r2 (by omega) I1 (sm.trans k1) fun s2 H2 I2 k2 => ?_
        have z := q s2 H2 I2 (k1.trans k2)
        have e : k + piled (t :: ts') = k + (t.length + 2) + piled ts' := by omega
        rw [e] at z
        simpa using z
theorem sub_under {A : Around} {id : String} {args : Args} (h : (Code.builtin id args).isGuard = true) (hu : (A.under (.builtin id args)).units = A.units + 1) (hd : (A.under (.builtin id args)).depth ≤ A.depth + 1) (hf : (A.under (.builtin id args)).frames = A.frames) (hh : (A.under (.builtin id args)).handled = A.handled) (sb : Sub X (n + 1) A) : Sub X n (A.under (.builtin id args)) :=
  ⟨⟨hh.trans sb.room.hd, by have := sb.room.dp; omega, by have := sb.room.un; omega⟩, hf.trans sb.fr⟩
theorem sub_tup {A : Around} {args : Args} (sb : Sub X (n + 1) A) : Sub X n (A.under (.builtin "tuple.__repr__" args)) :=
  sub_under (isGuard_tuple_repr _) (units_under_tuple_repr _ _) (by first | exact Nat.le_refl _ | exact Nat.le_succ _ | simp [Around.under, Code.weight, Code.isCreation, Code.isGuard, Code.isCaller, Code.frames, Code.isFrame, guardIds]) (by first | rfl | simp [Around.under, Code.frames, Code.isFrame]) (by first | rfl | simp [Around.under]) sb
theorem sub_tupU {A : Around} {args : Args} (sb : Sub X (n + 1) A) : Sub X n (A.under (.builtin "tuple.__repr__.under" args)) :=
  sub_under (isGuard_tuple_repr_under _) (units_under_tuple_repr_under _ _) (by first | exact Nat.le_refl _ | exact Nat.le_succ _ | simp [Around.under, Code.weight, Code.isCreation, Code.isGuard, Code.isCaller, Code.frames, Code.isFrame, guardIds]) (by first | rfl | simp [Around.under, Code.frames, Code.isFrame]) (by first | rfl | simp [Around.under]) sb
/-- a tuple's items, then their text -/
theorem rp_at {A : Around} {g : List Code} {pins : List (Addr × Obj)} {σ : L2.St} {s : Shared} {H : Hp} {R : Result → Shared → Prop} {base : Nat} {id : String} {rest : List Value} {a : Addr} {xs : List V} {ts : List Str}
    (hx : SqT X.K G a xs) (hT : RpA X n G as xs ts) (hna : a ∉ as) (hcg : (Code.builtin id ⟨.ref a :: rest, []⟩).isGuard = true) (hg : A.guards = some g) (hc : ∀ b ∈ a :: as, Clear g b) (sb : Sub X n (A.under (.builtin id ⟨.ref a :: rest, []⟩))) (I : Inv X pins σ H s) (sm : Same G H)
    (hb : base + (tupleText ts).length ≤ sizeLine) (hE : ∀ e s', X.xe e s' → R (.error e) s')
    (q : ∀ s' H' tk, Inv X pins σ H' s' → Same H H' → R (.ok (.ret (.str (tupleText ts) tk))) s') :
    wpOwn (model X.prog X.w) A (.builtin id ⟨.ref a :: rest, []⟩) (Builtin.tupleReprAt base ⟨[.ref a], []⟩) (fun fin s' => match fin with | .done f => R (.ok f) s' | .again c' => c'.quiet = true ∧ codeAny (model X.prog X.w) A c' R s') (fun e s' => R (.error e) s') s := by
  have hca : Clear g a := hc a (.head _)
  have hp := piled_le_tupleText ts
  obtain ⟨its, rv, ⟨o, ho, hcl, k, hd⟩, _⟩ := I.tuple (st_sm sm hx)
  have hlen : ts.length = its.toArray.size := by
    have e1 := hT.len
    have e2 := rv.length
    simp only [List.size_toArray]
    omega
  rw [tuple_repr_tree, tupleReprUnderWay_eq]
  refine wpOwn_bind (wpOwn_stackTailAny hg (tupGuardF_off _) (tupGuardF_pos _) ?_)
  have hno : (g.any fun c => tupGuardF (.ref a) (c, default)) = false := List.any_eq_false.mpr fun c hm => by
    rw [tupGuardF_of_clear hca c hm]
    exact Bool.false_ne_true
  rw [hno]
  refine wpOwn_of_wpAny ?_
  show wpAny _ _ (tupleReprRest base (.ref a)) _ _ s
  unfold tupleReprRest Builtin.Tuple.tupleItemsOf
  refine wpAny_bind (wpAny_bind (wpAny_seqItems ho hd (wpAny_pure ?_)))
  rw [← Array.forIn_toList]
  refine wpAny_bind (wpAny_mono (rp_fold (guards_under_guard hcg hg) (fun b hm => (hc b (.tail _ hm)).cons (a := a) fun e => hna (e ▸ hm)) sb _ its ts _ _ s H (fun r s' => ∃ H', Inv X pins σ H' s' ∧ Same H H' ∧ r = ⟨#[] ++ ts.toArray, base + piled ts⟩) hT rv (by omega) I sm fun s' H' I' k' => ⟨H', I', k', rfl⟩) (fun r s1 z => ?_) hE)
  obtain ⟨H', I', k', rfl⟩ := z
  refine wpAny_bind (wpAny_mkStr (wpAny_pure ?_) (by simpa [tupleText, hlen] using (show (tupleText ts).length ≤ sizeLine by omega)))
  have h1 := q { s1 with toks := s1.toks + 1 } H' s1.toks (I'.tok _) k'
  simpa [tupleText, hlen] using h1
theorem rp_tup {a : Addr} {xs : List V} {ts : List Str} (hx : SqT X.K G a xs) (hT : RpA X n G as xs ts) (hna : a ∉ as) : RpV X (n + 1) G (a :: as) (.ref a) (tupleText ts) := fun base A g pins s σ H u Q hb hg hc sb I r k q => by
  cases r
  obtain ⟨its, rv, ⟨o, ho, hcl, kk, hd⟩, _⟩ := I.tuple (st_sm k hx)
  refine wpAny_pyReprUnder_ref (by omega) (wpAny_pyReprObjUnder_twin (twin := "tuple.__repr__.under") ⟨o, ho, hcl⟩ F.slot_tuple_repr rfl sb.room.units0 ?_)
  refine call_twin_own (F.quiet_tuple_repr_under _) F.entry_tuple_repr_under F.check_tuple_repr_under ⟨o, ho, hcl⟩ F.slot_tuple_repr (F.args_tuple_repr_1 _) ?_
  exact rp_at (R := callEnd _ _) hx hT hna (isGuard_tuple_repr_under _) hg hc (sub_tupU sb) I k hb (fun _ _ e => e) fun s' H' tk I' k' => ⟨⟨_, _, rfl⟩, _, _, rfl, q _ _ I' k'⟩
/-- repr of a tuple -/
theorem call_reprT (hr : Room (n + 2) X.A) (hg : X.A.guards = some []) : CallR X (.builtin "repr") (fun ys H Q => ∃ a xs as ts, ys = [.ref a] ∧ SqT X.K H a xs ∧ RpA X n H as xs ts ∧ a ∉ as ∧ (tupleText ts).length ≤ sizeLine ∧ ∀ H', Same H H' → Q (.str (tupleText ts)) H') := by
  intro pins s σ H ys us Q I r h
  obtain ⟨a, xs, as, ts, rfl, hx, hT, hna, hz, q⟩ := h
  obtain rfl := Vals.ref1 r
  obtain ⟨its, rv, ⟨o, ho, hcl, kk, hd⟩, _⟩ := I.tuple hx
  refine call_repr_slot (show X.A.units + 1 < cLine by have := hr.un; omega) ⟨o, ho, hcl⟩ F.slot_tuple_repr ?_
  refine wpAny_call (codeAny_call_builtin_own (Code.quiet_builtin _ (by decide +kernel)) F.entry_tuple_repr (F.slot_tuple_repr.check _ _ _ _ _ _ _ _ ⟨o, ho, hcl⟩ (F.args_tuple_repr_1 _) ?_))
  exact rp_at (base := 0) (R := callEnd _ _) hx hT hna (isGuard_tuple_repr _) hg (fun b _ => .nil b) (sub_tup ⟨hr.in1, rfl⟩) I (Same.refl _) (by omega) (fun _ _ e => e) fun s' H' tk I' k' => ⟨_, _, rfl, .str (tupleText ts), H', I', ⟨_, rfl⟩, q _ k'⟩
/-- repr of data -/
theorem call_reprP (hr : Room (n + 1) X.A) (hg : X.A.guards = some []) : CallR X (.builtin "repr") (fun ys H Q => ∃ a d, ys = [.ref a] ∧ Dp X.K H (.ref a) d ∧ d.showable = true ∧ d.hasDict = false ∧ d.depth ≤ 16 ∧ d.shown.length ≤ sizeLine ∧ Q (.str d.shown) H) := by
  intro pins s σ H ys us Q I r h
  obtain ⟨a, d, rfl, hd, hs, hn, hp, hz, q⟩ := h
  obtain rfl := Vals.ref1 r
  obtain ⟨as, rd⟩ := Dp.reads I d _ _ hd rfl
  refine repr_of_reads' rd hs (fun e => by rw [hn] at e; cases e) hg (by have := hr.un; omega) (fun b o e => e) (fun h1 u tk k => ⟨.str d.shown, H, I.kept k, ⟨_, rfl⟩, q⟩) hz
end
end Kx
set_option Elab.async false
set_option linter.all false
set_option maxRecDepth 100000
set_option maxHeartbeats 4000000
namespace Kx
open PySem PySem.Spec PyProof.Rows L2
/-- the text of an action, of actions -/
def aT (k : Nat) : Act → Str
  | .arr x n => tupleText [reprText "arrive", reprText x, (toString n : String)]
  | .mrg t => tupleText [reprText "merge", rS k t]
  | .ins i x n => tupleText [reprText "insert", (toString (i : Int) : String), reprText x, (toString n : String)]
  | .rem i => tupleText [reprText "remove", (toString (i : Int) : String)]
  | .sta t => tupleText [reprText "start", rS k t]
def hT (k : Nat) (l : List Act) : Str := tupleText (l.map (aT k))
/-- an action with a text -/
def ActT : Act → Prop
  | .arr _ n => n.natAbs.log2 < 1920
  | .mrg t => Tx9 t
  | .ins i _ n => (i : Int).natAbs.log2 < 1920 ∧ n.natAbs.log2 < 1920
  | .rem i => (i : Int).natAbs.log2 < 1920
  | .sta t => Tx9 t
section
variable {X : Cx} {n : Nat} {G : Hp} {v : V} {k : Nat} {t : Tab}
theorem rp_sum (O : Own X n (CS X.K) "__repr__" (spSRepr (K := X.K))) (h : SumV X.K G v (k, t)) (hk : k ≤ 8) (ht : Tx9 t) : RpV X n G [] v (rS k t) := by
  have h0 := h
  obtain ⟨p, dx, c, rfl, ha, hc⟩ := h
  exact rp_own O ha fun H Q s q => ⟨_, (k, t), rfl, sum_same s h0, hk, ht, q⟩
theorem rp_act (O : Own X n (CS X.K) "__repr__" (spSRepr (K := X.K))) {a : Act} (h : ActV X.K k G v a) (hk : k ≤ 8) (ht : ActT a) (hz : (aT k a).length ≤ sizeLine) : ∃ p y xs, v = .ref p ∧ SqT X.K G p (.str y :: xs) ∧ RpV X (n + 1) G [p] v (aT k a) := by
  obtain ⟨p, xs, rfl, hp, hi⟩ := h
  have st : ∀ (ts : List Str) (y : Str), (tupleText ts).length ≤ sizeLine → reprText y ∈ ts → RpV X n G [] (.str y) (reprText y) := fun ts y h1 h2 => rp_str (Nat.le_trans (tupleText_mem_le h2) h1)
  cases a with
  | arr x m =>
    obtain rfl := hi
    refine ⟨p, _, _, rfl, hp, rp_tup hp (.cons (st _ _ hz (by simp)) (.cons (st _ _ hz (by simp)) (.cons (rp_int ht) .nil))) (by simp)⟩
  | mrg t =>
    obtain ⟨u, rfl, hu⟩ := hi
    refine ⟨p, _, _, rfl, hp, rp_tup hp (.cons (st _ _ hz (by simp)) (.cons (rp_sum O hu hk ht) .nil)) (by simp)⟩
  | ins i x m =>
    obtain rfl := hi
    refine ⟨p, _, _, rfl, hp, rp_tup hp (.cons (st _ _ hz (by simp)) (.cons (rp_int ht.1) (.cons (st _ _ hz (by simp)) (.cons (rp_int ht.2) .nil)))) (by simp)⟩
  | rem i =>
    obtain rfl := hi
    refine ⟨p, _, _, rfl, hp, rp_tup hp (.cons (st _ _ hz (by simp)) (.cons (rp_int ht) .nil)) (by simp)⟩
  | sta t =>
    obtain ⟨u, rfl, hu⟩ := hi
    refine ⟨p, _, _, rfl, hp, rp_tup hp (.cons (st _ _ hz (by simp)) (.cons (rp_sum O hu hk ht) .nil)) (by simp)⟩
theorem rp_acts (O : Own X n (CS X.K) "__repr__" (spSRepr (K := X.K))) (hk : k ≤ 8) : ∀ {xs : List V} {l : List Act}, Paired (ActV X.K k G) xs l → (∀ a ∈ l, ActT a) → (∀ a ∈ l, (aT k a).length ≤ sizeLine) →
    ∃ as, RpA X (n + 1) G as xs (l.map (aT k)) ∧ ∀ b ∈ as, ∃ y ys, SqT X.K G b (.str y :: ys)
  | _, _, .nil, _, _ => ⟨[], .nil, fun _ h => nomatch h⟩
  | _, _, .cons (a := v) (b := a) (l₁ := xs) (l₂ := l) h hs, ha, hz => by
    obtain ⟨p, y, ys, rfl, hp, h1⟩ := rp_act O h hk (ha _ (.head _)) (hz _ (.head _))
    obtain ⟨as, h2, h3⟩ := rp_acts O hk hs (fun b hb => ha b (.tail _ hb)) (fun b hb => hz b (.tail _ hb))
    have up : ∀ {vs : List V} {ts : List Str}, RpA X (n + 1) G as vs ts → RpA X (n + 1) G (p :: as) vs ts := fun {vs ts} q => by
      induction q with
      | nil => exact .nil
      | cons r _ ih => exact .cons (r.more (Nat.le_refl _) fun b hb => .tail _ hb) ih
    refine ⟨p :: as, .cons (h1.more (Nat.le_refl _) fun b hb => by simp at hb; simp [hb]) (up h2), fun b hb => ?_⟩
    rcases List.mem_cons.mp hb with rfl | hb
    · exact ⟨y, ys, hp⟩
    · exact h3 b hb
/-- repr of a tuple of actions -/
theorem call_reprA (O : Own X n (CS X.K) "__repr__" (spSRepr (K := X.K))) (hr : Room (n + 3) X.A) (hg : X.A.guards = some []) : CallR X (.builtin "repr") (fun ys H Q => ∃ v k l, ys = [v] ∧ TupOf X.K (ActV X.K k) H v l ∧ k ≤ 8 ∧ (∀ a ∈ l, ActT a) ∧ (hT k l).length ≤ sizeLine ∧ ∀ H', Same H H' → Q (.str (hT k l)) H') := by
  intro pins s σ H ys us Q I r h
  obtain ⟨v, k, l, rfl, ⟨a, xs, rfl, ha, hp⟩, hk, ht, hz, q⟩ := h
  obtain ⟨as, h1, h2⟩ := rp_acts O hk hp ht fun b hb => Nat.le_trans (tupleText_mem_le (List.mem_map_of_mem hb)) hz
  refine call_reprT (n := n + 1) hr hg pins s σ H _ us Q I r ⟨a, xs, as, l.map (aT k), rfl, ha, h1, fun hm => ?_, hz, q⟩
  obtain ⟨y, ys, hy⟩ := h2 a hm
  have e := I.tuple_inj ha hy
  rw [e] at hp
  cases hp with
  | cons h _ =>
    obtain ⟨_, _, e, _⟩ := h
    cases e
end
/-! ### data -/
section
variable {K : PySem.W.Frag} {H : Hp} {v : V}
/-- numbers fit for text -/
def Fit (t : Tab) : Prop := ∀ p ∈ t, p.2.natAbs.log2 < 1920
theorem sw_pr {p : Str × Int} : (prD p).showable = decide (p.2.natAbs.log2 < 1920) := by simp [prD, PyData.showable, PyData.showableAll]
theorem sw_all : ∀ {t : Tab}, Fit t → PyData.showableAll (t.map prD) = true
  | [], _ => by simp [PyData.showableAll]
  | p :: t, h => by
    simp only [List.map_cons, PyData.showableAll, sw_pr, sw_all (t := t) fun q hq => h q (.tail _ hq), Bool.and_true, decide_eq_true_eq]
    exact h p (.head _)
theorem sw_tab {t : Tab} (h : Fit t) : (tabD t).showable = true := by
  simp only [tabD, PyData.showable]
  exact sw_all h
theorem nd_all : ∀ {t : Tab}, PyData.hasDictAll (t.map prD) = false
  | [] => by simp [PyData.hasDictAll]
  | p :: t => by simp [PyData.hasDictAll, prD, PyData.hasDict, nd_all (t := t)]
theorem nd_tab {t : Tab} : (tabD t).hasDict = false := by
  simp only [tabD, PyData.hasDict]
  exact nd_all
theorem dh_all : ∀ {t : Tab}, PyData.depthAll (t.map prD) ≤ 3
  | [] => by simp [PyData.depthAll]
  | p :: t => by
    have := dh_all (t := t)
    simp [PyData.depthAll, prD, PyData.depth]
    omega
theorem dh_tab {t : Tab} : (tabD t).depth ≤ 4 := by
  have := dh_all (t := t)
  simp only [tabD, PyData.depth]
  omega
end
end Kx
set_option Elab.async false
set_option linter.all false
set_option maxRecDepth 100000
set_option maxHeartbeats 4000000
namespace Kx
open PySem PySem.Spec PyProof.Rows L2
/-! ### defs that are called where no repr is under way -/
structure FnG (P : Program) (w : World) (K : PySem.W.Frag) (mg : Str → Option Value) (base : Heap) (k : Nat) (f : Addr) (fd : FuncData) (ps : List Str) (sp : Sp) : Prop where
  len : ∀ vs H Q E, sp vs H Q E → vs.length = ps.length
  run : ∀ (A : Around) (outer : List Env) (s : Shared) (H : Hp) (args : Args) (us : List Value) (vs : List V) (Q : VK) (E : XK), A.guards = some [] → Room k A → Env0 P w K mg base A outer s H → BindsTo s fd args (ps.zip us) → Vals vs us → sp vs H Q E →
    codeAny (model P w) A (.call (.ref f) args) (CR CX0 outer P w H s Q E) s
section
variable {P : Program} {w : World} {K : PySem.W.Frag} {mg : Str → Option Value} {base : Heap} {x qual : Str} {st : Stmt} {dvs : List V} {kws : List (Str × V)} {f : Addr} {fd : FuncData} {N ps : List Str} {k : Nat} {sp : Sp}
theorem fd_okG (F : FunD K x qual (defArgs st) (defBody st) (defScope st) dvs kws f fd) (S : FnScope N ps (defScope st)) (len : ∀ vs H Q E, sp vs H Q E → vs.length = ps.length)
    (hb : ∀ (cdv : Value) (A : Around) (outer : List Env) (s : Shared) (H : Hp) (vs : List V) (Q : VK) (E : XK), A.guards = some [] → Room k (A.deeper (envOfC qual (defScope st) s.heap.objs.size f cdv)) → sp vs H Q E →
      ∃ t, PSs (cxOf CX0 P w K mg base N qual (defScope st) f cdv A outer s H E).nox (defBody st) t ∧ t { nx := fun _ H' => Q .non H', rt := Q } (start N vs) H) : FnG P w K mg base (k + 1) f fd ps sp := by
  obtain ⟨oc, od, dV, kV, doc, pm, an, cdv, ct, osl, rfl, lk, hcd, _, _⟩ := F.ex
  refine ⟨len, fun A outer s H args us vs Q E hg room en bi rv hsp => ?_⟩
  have vl := len _ _ _ _ hsp
  have kin : K.In s.heap := en.mod.kin.keeps fun b o e => (en.bs b o e).1
  have nolim : s.heap.NoLimit := en.mod.nolimit.keeps fun b o e => (en.bs b o e).1
  have kinds : ∀ y ∈ ps.zip us, (defScope st).names.lookup y.1 = some .local ∨ ((defScope st).names.lookup y.1 = some .cell ∧ ((cellsFrom (s.heap.objs.size + 1) (defScope st).names []).lookup y.1).isSome = true) := fun ⟨n, v⟩ hy => by
    rcases S.par n (List.of_mem_zip hy).1 with c | c
    · exact .inl c
    · exact .inr ⟨c, PySem.W.cellsFrom_some _ _ _ (.inl c)⟩
  refine codeAny_call_function room.depth (kin _ _ lk) rfl S.co S.gen rfl (PySem.W.codeRec_of kin hcd) (bi _ _ _ _ ?_)
  refine wpAny_newFunctionEnv_cells S.kind kinds fun env he s1 z => ?_
  subst he
  refine ⟨nolim.keeps z.toInCall.keep, codeAny_func ?_⟩
  obtain ⟨t, ht, hq⟩ := hb cdv A outer s H vs Q E hg (room.deeper _) hsp
  have J : Inv (cxOf CX0 P w K mg base N qual (defScope st) f cdv A outer s H E) [] (start N vs) H s1 := inv_start S room.hd en vl rv z
  refine wpAny_mono (ht.nox.run [] s1 (start N vs) H _ J hq) (fun fl s2 hs => ?_) fun _ _ hs => hs
  cases fl with
  | ret u =>
    obtain ⟨v, σ2, H2, I, r, q⟩ := hs
    exact ⟨v, H2, I.os, I.bare, I.base, I.hok, r, q⟩
  | next =>
    obtain ⟨σ2, H2, I, q⟩ := hs
    exact ⟨.non, H2, I.os, I.bare, I.base, I.hok, rfl, q⟩
  | brk =>
    obtain ⟨_, _, _, q⟩ := hs
    exact q.elim
  | cont =>
    obtain ⟨_, _, _, q⟩ := hs
    exact q.elim
end
/-- a def of the top, no defaults -/
structure Fg (P : Program) (w : World) (K : PySem.W.Frag) (mg : Str → Option Value) (base : Heap) (k : Nat) (x : Str) (ps : List Str) (sp : Sp) : Prop where
  ex : ∃ (f : Addr) (fd : FuncData), FnG P w K mg base k f fd ps sp ∧ mg x = some (.ref f) ∧ PySem.W.keepIn K (.ref f) = true ∧ Binds K fd ps []
section
variable {X : Cx} {k : Nat} {x : Str} {ps : List Str} {sp : Sp} {p pos : Pos} {e : Expr} {es : List Expr} {t : TA}
theorem run_g {f : Addr} {fd : FuncData} {pins : List (Addr × Obj)} {σ : L2.St} {H : Hp} {s : Shared} {Q : VK} {us : List Value} {vs : List V} (F : FnG X.prog X.w X.K X.mg X.base k f fd ps sp) (hg : X.A.guards = some []) (hr : Room k X.A) (hb : Binds X.K fd ps [])
    (I : Inv X pins σ H s) (r : Vals vs us) (h : sp vs H Q E0) : wpAny (model X.prog X.w) X.A (call (.ref f) us) (EP X pins σ Q) X.xe s := by
  have lv := F.len _ _ _ _ h
  refine wpAny_call (codeAny_mono (F.run X.A X.stack s H ⟨us, []⟩ us vs Q E0 hg hr I.env0 (by
    have := hb s us I.kIn (by rw [List.append_nil, ← r.length]; exact lv)
    simpa using this) r h) fun r s2 hq => ?_)
  cases r with
  | error e => exact pass0 pins σ H s e s2 I hq
  | ok fl =>
    cases fl with
    | ret u => exact I.after hq
    | next => exact hq.elim
    | brk => exact hq.elim
    | cont => exact hq.elim
theorem pe_g (F : Fg X.prog X.w X.K X.mg X.base k x ps sp) (hG : X.A.guards = some []) (hr : Room k X.A) (ha : PA X (e :: es) t) (hg : Gl X x := by rfl) (hdb : (x == ("__debug__" : Str)) = false := by decide)
    (he : starEach (e :: es) X.env = (false, eval e X.env) :: starEach es X.env := by rfl) (hpl : (backTo pos (starEach es X.env)).any (·.1) = false := by rfl) : PE X (.Call (.Name x p) (e :: es) [] pos) (tCall sp [] E0 t) := by
  obtain ⟨f, fd, F, h1, h2, h3⟩ := F.ex
  refine ⟨fun pins s σ H Q I h => wpAny_Call_Name_kw (ld_glob I hg h1 ?_ hdb)⟩
  refine PySem.W.callWith_K (h₀ := X.base) I.ok.mod.kin h2 (thn (ha.run pos pins s σ H _ I h) fun us s1 ⟨vs, H1, I1, r, q⟩ => ⟨I1.kIn, ?_⟩) he hpl
  exact run_g F hG hr h3 I1 r (by
    have q1 : sp (vs ++ []) H1 Q E0 := q
    rw [List.append_nil] at q1
    exact q1)
end
section
variable {P : Program} {w : World} {K : PySem.W.Frag} {mg : Str → Option Value} {base : Heap} (T : Tx w K mg)
include T
theorem Tx.G__law_rows_right {k : Nat} {sp : Sp} (len : ∀ vs H Q E, sp vs H Q E → vs.length = 3)
    (hb : ∀ (cdv : Value) (A : Around) (outer : List Env) (s : Shared) (H : Hp) (vs : List V) (Q : VK) (E : XK), A.guards = some [] → Room k (A.deeper (envOfC "_law_rows_right" (defScope s__law_rows_right) s.heap.objs.size (He.ga K "_law_rows_right") cdv)) → sp vs H Q E →
      ∃ t, PSs (cxOf CX0 P w K mg base n__law_rows_right "_law_rows_right" (defScope s__law_rows_right) (He.ga K "_law_rows_right") cdv A outer s H E).nox (defBody s__law_rows_right) t ∧ t { nx := fun _ H' => Q .non H', rt := Q } (start n__law_rows_right vs) H) : Fg P w K mg base (k + 1) "_law_rows_right" ["_law_told", "_law_width", "_law_rows"] sp := by
  obtain ⟨fd, F⟩ := T.D__law_rows_right
  exact ⟨_, fd, fd_okG F sc__law_rows_right len hb, T.m__law_rows_right, F.kp, F.bindsN (ps := ["_law_told", "_law_width", "_law_rows"]) (fun _ _ _ _ _ _ us hl => match us, hl with | [_, _, _], _ => rfl)⟩
theorem Tx.G__law_told_right {k : Nat} {sp : Sp} (len : ∀ vs H Q E, sp vs H Q E → vs.length = 3)
    (hb : ∀ (cdv : Value) (A : Around) (outer : List Env) (s : Shared) (H : Hp) (vs : List V) (Q : VK) (E : XK), A.guards = some [] → Room k (A.deeper (envOfC "_law_told_right" (defScope s__law_told_right) s.heap.objs.size (He.ga K "_law_told_right") cdv)) → sp vs H Q E →
      ∃ t, PSs (cxOf CX0 P w K mg base n__law_told_right "_law_told_right" (defScope s__law_told_right) (He.ga K "_law_told_right") cdv A outer s H E).nox (defBody s__law_told_right) t ∧ t { nx := fun _ H' => Q .non H', rt := Q } (start n__law_told_right vs) H) : Fg P w K mg base (k + 1) "_law_told_right" ["_law_box", "_law_width", "_law_state"] sp := by
  obtain ⟨fd, F⟩ := T.D__law_told_right
  exact ⟨_, fd, fd_okG F sc__law_told_right len hb, T.m__law_told_right, F.kp, F.bindsN (ps := ["_law_box", "_law_width", "_law_state"]) (fun _ _ _ _ _ _ us hl => match us, hl with | [_, _, _], _ => rfl)⟩
theorem Tx.G__law_runs_right {k : Nat} {sp : Sp} (len : ∀ vs H Q E, sp vs H Q E → vs.length = 3)
    (hb : ∀ (cdv : Value) (A : Around) (outer : List Env) (s : Shared) (H : Hp) (vs : List V) (Q : VK) (E : XK), A.guards = some [] → Room k (A.deeper (envOfC "_law_runs_right" (defScope s__law_runs_right) s.heap.objs.size (He.ga K "_law_runs_right") cdv)) → sp vs H Q E →
      ∃ t, PSs (cxOf CX0 P w K mg base n__law_runs_right "_law_runs_right" (defScope s__law_runs_right) (He.ga K "_law_runs_right") cdv A outer s H E).nox (defBody s__law_runs_right) t ∧ t { nx := fun _ H' => Q .non H', rt := Q } (start n__law_runs_right vs) H) : Fg P w K mg base (k + 1) "_law_runs_right" ["_law_pool_here", "_law_width", "_law_words_here"] sp := by
  obtain ⟨fd, F⟩ := T.D__law_runs_right
  exact ⟨_, fd, fd_okG F sc__law_runs_right len hb, T.m__law_runs_right, F.kp, F.bindsN (ps := ["_law_pool_here", "_law_width", "_law_words_here"]) (fun _ _ _ _ _ _ us hl => match us, hl with | [_, _, _], _ => rfl)⟩
theorem Tx.G__law_merges_right {k : Nat} {sp : Sp} (len : ∀ vs H Q E, sp vs H Q E → vs.length = 3)
    (hb : ∀ (cdv : Value) (A : Around) (outer : List Env) (s : Shared) (H : Hp) (vs : List V) (Q : VK) (E : XK), A.guards = some [] → Room k (A.deeper (envOfC "_law_merges_right" (defScope s__law_merges_right) s.heap.objs.size (He.ga K "_law_merges_right") cdv)) → sp vs H Q E →
      ∃ t, PSs (cxOf CX0 P w K mg base n__law_merges_right "_law_merges_right" (defScope s__law_merges_right) (He.ga K "_law_merges_right") cdv A outer s H E).nox (defBody s__law_merges_right) t ∧ t { nx := fun _ H' => Q .non H', rt := Q } (start n__law_merges_right vs) H) : Fg P w K mg base (k + 1) "_law_merges_right" ["_law_pool_here", "_law_width", "_law_words_here"] sp := by
  obtain ⟨fd, F⟩ := T.D__law_merges_right
  exact ⟨_, fd, fd_okG F sc__law_merges_right len hb, T.m__law_merges_right, F.kp, F.bindsN (ps := ["_law_pool_here", "_law_width", "_law_words_here"]) (fun _ _ _ _ _ _ us hl => match us, hl with | [_, _, _], _ => rfl)⟩
theorem Tx.G__law_right {k : Nat} {sp : Sp} (len : ∀ vs H Q E, sp vs H Q E → vs.length = 1)
    (hb : ∀ (cdv : Value) (A : Around) (outer : List Env) (s : Shared) (H : Hp) (vs : List V) (Q : VK) (E : XK), A.guards = some [] → Room k (A.deeper (envOfC "_law_right" (defScope s__law_right) s.heap.objs.size (He.ga K "_law_right") cdv)) → sp vs H Q E →
      ∃ t, PSs (cxOf CX0 P w K mg base n__law_right "_law_right" (defScope s__law_right) (He.ga K "_law_right") cdv A outer s H E).nox (defBody s__law_right) t ∧ t { nx := fun _ H' => Q .non H', rt := Q } (start n__law_right vs) H) : Fg P w K mg base (k + 1) "_law_right" ["_law_pool_here"] sp := by
  obtain ⟨fd, F⟩ := T.D__law_right
  exact ⟨_, fd, fd_okG F sc__law_right len hb, T.m__law_right, F.kp, F.bindsN (ps := ["_law_pool_here"]) (fun _ _ _ _ _ _ us hl => match us, hl with | [_], _ => rfl)⟩
theorem Tx.G_law {k : Nat} {sp : Sp} (len : ∀ vs H Q E, sp vs H Q E → vs.length = 1)
    (hb : ∀ (cdv : Value) (A : Around) (outer : List Env) (s : Shared) (H : Hp) (vs : List V) (Q : VK) (E : XK), A.guards = some [] → Room k (A.deeper (envOfC "law" (defScope s_law) s.heap.objs.size (He.ga K "law") cdv)) → sp vs H Q E →
      ∃ t, PSs (cxOf CX0 P w K mg base n_law "law" (defScope s_law) (He.ga K "law") cdv A outer s H E).nox (defBody s_law) t ∧ t { nx := fun _ H' => Q .non H', rt := Q } (start n_law vs) H) : Fg P w K mg base (k + 1) "law" ["_law_script"] sp := by
  obtain ⟨fd, F⟩ := T.D_law
  exact ⟨_, fd, fd_okG F sc_law len hb, T.m_law, F.kp, F.bindsN (ps := ["_law_script"]) (fun _ _ _ _ _ _ us hl => match us, hl with | [_], _ => rfl)⟩
end
end Kx
set_option Elab.async false
set_option linter.all false
set_option maxRecDepth 100000
set_option maxHeartbeats 4000000
namespace Kx
open PySem PySem.Spec PyProof.Rows L2
/-! ### zip of a tuple and a list -/
def ItzM (K : PySem.W.Frag) (a b : Addr) : It :=
  ⟨fun i H => ∃ (xs ys : List V) (x y : V), SqT K H a xs ∧ SqL K H b ys ∧ xs[i]? = some x ∧ ys[i]? = some y,
    fun i H v H' => ∃ T x y, v = .ref T ∧ H T = none ∧ H' = upd H T (.tup [x, y]) ∧ (∀ xs, SqT K H a xs → xs[i]? = some x) ∧ ∀ ys, SqL K H b ys → ys[i]? = some y,
    fun i H => ∃ xs ys : List V, SqT K H a xs ∧ SqL K H b ys ∧ i = xs.length ∧ i = ys.length⟩
theorem it_ne1 {h : Heap} {a i : Addr} {xs : Array Value} {j : Nat} (p : h.IsTuple a xs) (q : h.IsTupleIter i a j) : a ≠ i := fun e => by
  obtain ⟨o, ho, hcl, _⟩ := p
  obtain ⟨o', ho', hcl', _⟩ := q
  rw [e] at ho
  rw [ho'] at ho
  cases ho
  rw [hcl] at hcl'
  exact absurd hcl' (by decide +kernel)
theorem it_ne2 {h : Heap} {a i : Addr} {xs : Array Value} {j : Nat} (p : h.IsList a xs) (q : h.IsListIter i a j) : a ≠ i := fun e => by
  obtain ⟨o, ho, hcl, _⟩ := p
  obtain ⟨o', ho', hcl', _⟩ := q
  rw [e] at ho
  rw [ho'] at ho
  cases ho
  rw [hcl] at hcl'
  exact absurd hcl' (by decide +kernel)
theorem turn_zipM {P : Program} {w : World} {K : PySem.W.Frag} {elts : List Expr} {kk : Nat} {tpos : Pos} {a b z TI TO i1 i2 : Addr} (D : ZipSep2 z TI TO i1 i2 [i1, a] [i2, b]) :
    Turn P w K (.Tuple elts kk tpos) (ItzM K a b) [z, TI, TO, i1, i2] z (fun i h => IsZip h z TI TO .none ∧ IsTupOf2 h TI (.ref i1) (.ref i2) ∧ (∃ x y, IsTupOf2 h TO x y) ∧ h.IsTupleIter i1 a i ∧ h.IsListIter i2 b i) where
  mem := by simp
  obj := fun i h st c hc => by
    obtain ⟨hz, hTI, ⟨x, y, hTO⟩, ⟨o1, e1, _, d1⟩, ⟨o2, e2, _, d2⟩⟩ := st
    simp only [List.mem_cons, List.not_mem_nil, or_false] at hc
    rcases hc with q | q | q | q | q
    · rw [q]; exact ⟨_, hz, fun v q => nomatch q⟩
    · rw [q]; exact ⟨_, hTI, fun v q => nomatch q⟩
    · rw [q]; exact ⟨_, hTO, fun v q => nomatch q⟩
    · rw [q]; exact ⟨o1, e1, fun v q => by rw [d1] at q; cases q⟩
    · rw [q]; exact ⟨o2, e2, fun v q => by rw [d2] at q; cases q⟩
  keep := fun i h h' st k => by
    obtain ⟨hz, hTI, ⟨x, y, hTO⟩, h1, h2⟩ := st
    exact ⟨k z (by simp) _ hz, k TI (by simp) _ hTI, ⟨x, y, k TO (by simp) _ hTO⟩, h1.at fun o q => k i1 (by simp) o q, h2.at fun o q => k i2 (by simp) o q⟩
  item := by
    intro X hP hw hK hc i pins s σ H E I hf st hg
    subst hP hw hK
    obtain ⟨hz, hTI, ⟨x0, y0, hTO⟩, h1, h2⟩ := st
    obtain ⟨xs, ys, x, y, hqx, hqy, hx, hy⟩ := hg
    obtain ⟨its, rv, p, _⟩ := I.tuple hqx
    obtain ⟨its2, rv2, p2, _⟩ := I.list hqy
    obtain ⟨u, hu, ru⟩ := rv.get hx
    obtain ⟨u2, hu2, ru2⟩ := rv2.get hy
    have hh := I.ok.hd hc
    have ne1 : a ≠ i1 := it_ne1 p h1
    have ne2 : b ≠ i2 := it_ne2 p2.isList h2
    refine wpAny_pyNext_zipD2_item D (Draws.tuple (show X.A.in1.handled = none from hh) i1 a ne1 its.toArray) (Draws.list (show X.A.in1.handled = none from hh) i2 b ne2 its2.toArray) hz hTI hTO ⟨h1, p⟩ ⟨h2, p2.isList⟩ (by
      have := List.getElem?_eq_some_iff.mp hu
      simpa using this.1) (by
      have := List.getElem?_eq_some_iff.mp hu2
      simpa using this.1) fun x1 x2 h' tk e1 e2 z' TO' s1' s2' hT hsz hk => ?_
    obtain rfl : u = x1 := Option.some.inj ((by simpa using hu : its.toArray[i]? = some u).symm.trans e1)
    obtain rfl : u2 = x2 := Option.some.inj ((by simpa using hu2 : its2.toArray[i]? = some u2).symm.trans e2)
    have hzl : z < s.heap.objs.size := Heap.lt_size hz
    refine ⟨_, rfl, wpAny_letOwnedTupleGo_zip (s := { s with heap := h', toks := tk }) z' fun h2' z2 sb => ?_⟩
    have hT2 : h2'.get? s.heap.objs.size = some { cls := .type "tuple", data := .seq #[u, u2] } := (sb.2 _ (Nat.ne_of_gt hzl)).trans hT
    have new : ObjOk X.prog X.w (upd H s.heap.objs.size (.tup [x, y])) h2' s.heap.objs.size (.tup [x, y]) :=
      ⟨show 2 ≤ sizeLine by decide, [u, u2], .cons ru (.cons ru2 .nil), ⟨_, hT2, rfl, _, rfl⟩⟩
    have J : Inv X pins σ (upd H s.heap.objs.size (.tup [x, y])) { s with heap := h2', toks := tk } :=
      I.turnedNew (t' := tk) (ch := [z, TI, TO, i1, i2]) (fun c o hb q => (sb.2 c (fun q' => hb (by simp [q']))).trans (hk c o (fun q' => hb (by simp [q'])) (fun q' => hb (by simp [q'])) (fun q' => hb (by simp [q'])) (fun q' => hb (by simp [q'])) q)) hf (Nat.le_refl _) new
    refine ⟨.ref s.heap.objs.size, _, J, rfl, ⟨_, x, y, rfl, I.hok.fresh (Nat.le_refl _), rfl, fun l hl => by rw [I.tuple_inj hl hqx]; exact hx, fun l hl => by rw [I.list_inj hl hqy]; exact hy⟩, ⟨z2, ?_, ⟨u, u2, ?_⟩, ?_, ?_⟩, fun c hcm => ?_⟩
    · exact (sb.2 _ D.TIz).trans (hk _ _ D.TIz D.TITO D.TIi1 D.TIi2 hTI)
    · exact (sb.2 _ D.TOz).trans TO'
    · exact s1'.1.at fun o q => (sb.2 _ D.zi1.symm).trans q
    · exact s2'.1.at fun o q => (sb.2 _ D.zi2.symm).trans q
    · have hlt : c < s.heap.objs.size := by
        simp only [List.mem_cons, List.not_mem_nil, or_false] at hcm
        rcases hcm with q | q | q | q | q
        · rw [q]; exact hzl
        · rw [q]; exact Heap.lt_size hTI
        · rw [q]; exact Heap.lt_size hTO
        · rw [q]; obtain ⟨_, e1, _⟩ := h1; exact Heap.lt_size e1
        · rw [q]; obtain ⟨_, e2, _⟩ := h2; exact Heap.lt_size e2
      rw [upd_ne (Nat.ne_of_lt hlt)]
      exact (hf c hcm).1
  done := by
    intro X hP hw hK hc i pins s σ H E I hf st hg
    subst hP hw hK
    obtain ⟨hz, hTI, ⟨x0, y0, hTO⟩, h1, h2⟩ := st
    obtain ⟨xs, ys, hqx, hqy, en1, en2⟩ := hg
    obtain ⟨its, rv, p, _⟩ := I.tuple hqx
    obtain ⟨its2, rv2, p2, _⟩ := I.list hqy
    have l1 := rv.length
    have l2 := rv2.length
    have hh := I.ok.hd hc
    have ne1 : a ≠ i1 := it_ne1 p h1
    have ne2 : b ≠ i2 := it_ne2 p2.isList h2
    refine wpAny_pyNext_zipD2_end D (Draws.tuple (show X.A.in1.handled = none from hh) i1 a ne1 its.toArray) (Draws.list (show X.A.in1.handled = none from hh) i2 b ne2 its2.toArray) hz hTI hTO ⟨h1, p⟩ ⟨h2, p2.isList⟩ (by simp; omega) (by simp; omega) (.inl (by simp; omega)) fun h' tk hk => ⟨rfl, I.turnedL (t' := tk) (ch := [z, TI, TO, i1, i2]) (fun c o hb q =>
      hk c o (fun q' => hb (by simp [q'])) (fun q' => hb (by simp [q'])) (fun q' => hb (by simp [q'])) (fun q' => hb (by simp [q'])) q) hf⟩
  self := fun A i s Q E st h => wpAny_pyIter_zip st.1 h
theorem sep_of (n a b : Nat) (ha : a < n) (hb : b < n) : ZipSep2 (n + 4) (n + 2) (n + 3) n (n + 1) [n, a] [n + 1, b] := by
  have k : ∀ x y z : Nat, x ≠ y → x ≠ z → x ∉ [y, z] := fun x y z h1 h2 h => by simp at h; exact h.elim h1 h2
  have d : ∀ x y : Nat, x ≠ y → ¬ @Eq Addr x y := fun _ _ h => h
  exact ⟨d _ _ (by omega), d _ _ (by omega), d _ _ (by omega), d _ _ (by omega), .head _, k _ _ _ (by omega) (by omega), k _ _ _ (by omega) (by omega), d _ _ (by omega), .head _, k _ _ _ (by omega) (by omega), k _ _ _ (by omega) (by omega), k _ _ _ (by omega) (by omega), k _ _ _ (by omega) (by omega)⟩
def iZipM (K : PySem.W.Frag) (ta : TA) : TI := fun σ H R => ta σ H fun vs H1 => ∃ a b xs ys, vs = [.ref a, .ref b] ∧ SqT K H1 a xs ∧ SqL K H1 b ys ∧ R (ItzM K a b) H1
theorem pi_zipM {X : Cx} {e e2 : Expr} {ta : TA} {p pos tpos : Pos} {elts : List Expr} {kk : Nat} (hg : Gl X "zip") (hm : X.mg "zip" = none) (ha : PA X [e, e2] ta)
    (hs : starEach [e, e2] X.env = (false, eval e X.env) :: starEach [e2] X.env := by rfl) (hpl : (backTo pos (starEach [e2] X.env)).any (·.1) = false := by rfl) :
    PI X (.Tuple elts kk tpos) (.Call (.Name "zip" p) [e, e2] [] pos) (iZipM X.K ta) := by
  refine ⟨fun pins s σ H R I h => ?_⟩
  refine Call_ (ld_blt I hg hm PyProof.Rows.boot_zip (PyProof.Rows.callWith_type1 (thn (ha.run pos pins s σ H _ I h) fun us s1 ⟨vs, H1, I1, r1, q1⟩ => ?_) hs hpl))
  obtain ⟨a, b, xs, ys, rfl, hqx, hqy, q⟩ := q1
  obtain ⟨u1, u2, rfl, r, r'⟩ : ∃ u1 u2, us = [u1, u2] ∧ RelV (.ref a) u1 ∧ RelV (.ref b) u2 := by
    cases r1 with | cons r rr => cases rr with | cons r' rr => cases rr with | nil => exact ⟨_, _, rfl, r, r'⟩
  cases r
  cases r'
  obtain ⟨its, rv, p1, _⟩ := I1.tuple hqx
  obtain ⟨its2, rv2, p2, _⟩ := I1.list hqy
  have la : a < s1.heap.objs.size := by
    obtain ⟨o, ho, _⟩ := id p1
    exact Heap.lt_size ho
  have lb := p2.lt
  refine zip_begins2 (begins_tuple a its.toArray) (begins_list b its2.toArray) p1 p2.isList fun h' hz hTI hTO h1 h2 hsz hk => wpAny_pyIter_zip hz ?_
  have I2 : Inv X pins σ H1 { s1 with heap := h' } := I1.kept (t' := s1.toks) hk
  refine ⟨s1.heap.objs.size + 4, [s1.heap.objs.size + 4, s1.heap.objs.size + 2, s1.heap.objs.size + 3, s1.heap.objs.size, s1.heap.objs.size + 1], _, _, H1, rfl, I2, turn_zipM (a := a) (b := b) (z := s1.heap.objs.size + 4) (TI := s1.heap.objs.size + 2) (TO := s1.heap.objs.size + 3) (i1 := s1.heap.objs.size) (i2 := s1.heap.objs.size + 1) ?_, ⟨hz, hTI, ⟨_, _, hTO⟩, ⟨_, h1, rfl, rfl⟩, ⟨_, h2, rfl, rfl⟩⟩, fun c hcm => ?_, q⟩
  · exact sep_of s1.heap.objs.size a b la lb
  · have hle : s1.heap.objs.size ≤ c := by
      simp only [List.mem_cons, List.not_mem_nil, or_false] at hcm
      rcases hcm with q | q | q | q | q <;> rw [q] <;> first | exact Nat.le_add_right _ _ | exact Nat.le_refl _
    exact I1.fpOk hle (I1.hok.fresh hle)
end Kx
set_option Elab.async false
set_option linter.all false
set_option maxRecDepth 100000
set_option maxHeartbeats 4000000
namespace Kx
open PySem PySem.Spec PyProof.Rows L2
/-! ### data that has a text -/
structure Sho (d : PyData) (n k : Nat) : Prop where
  sw : d.showable = true
  nd : d.hasDict = false
  dp : d.depth ≤ k
  le : d.shown.length ≤ n
/-- a table's names and numbers -/
structure Txr (t : Tab) : Prop where
  nm : ∀ p ∈ t, IsNm p.1
  sm : Sml t
  len : t.length ≤ 60
theorem Txr.t9 {t : Tab} (h : Txr t) : Tx9 t := ⟨fun p hp => (h.nm p hp).2.1, h.sm, h.len⟩
theorem nm_cps {x : Str} (h : IsNm x) : ∀ c ∈ x.cps.toList, c < 16 ^ 8 := fun c hc =>
  (by decide +kernel : ∀ c ∈ (Str.ofString "abcdefghijklmnopqrstuvwxyz").cps.toList, c < 16 ^ 8) c (h.2.2 c hc)
theorem nm_rep {x : Str} (h : IsNm x) : (reprText x).length ≤ 82 := by
  have a := StrLaws.reprText_len x (nm_cps h)
  have b := h.2.1
  omega
theorem sho_int {i : Int} (h : Small i) : Sho (.int i) 1921 0 := ⟨by simpa [PyData.showable] using (show i.natAbs.log2 < 1920 from h), by simp [PyData.hasDict], by simp [PyData.depth], by
  simp only [PyData.shown]
  exact int_text_len_1921 h⟩
theorem sho_str {x : Str} (h : IsNm x) : Sho (.str x) 82 0 := ⟨by simp [PyData.showable], by simp [PyData.hasDict], by simp [PyData.depth], by
  simp only [PyData.shown]
  exact nm_rep h⟩
/-- of many: each at most n -/
structure ShoA (l : List PyData) (n k : Nat) : Prop where
  sw : PyData.showableAll l = true
  nd : PyData.hasDictAll l = false
  dp : PyData.depthAll l ≤ k
  le : ((PyData.shownAll l).map (·.length)).sum + 2 * (PyData.shownAll l).length ≤ n
theorem sho_nil {k : Nat} : ShoA [] 0 k := ⟨by simp [PyData.showableAll], by simp [PyData.hasDictAll], by simp [PyData.depthAll], by simp [PyData.shownAll]⟩
theorem sho_cons {d : PyData} {l : List PyData} {m n j k : Nat} (a : Sho d m j) (b : ShoA l n k) (h : j ≤ k := by decide) : ShoA (d :: l) (m + 2 + n) k :=
  ⟨by simp [PyData.showableAll, a.sw, b.sw], by simp [PyData.hasDictAll, a.nd, b.nd], by
    simp only [PyData.depthAll]
    exact Nat.max_le.mpr ⟨Nat.le_trans a.dp h, b.dp⟩, by
    have := a.le
    have := b.le
    simp only [PyData.shownAll, List.map_cons, List.sum_cons, List.length_cons]
    omega⟩
theorem sho_tup {l : List PyData} {n k : Nat} (a : ShoA l n k) : Sho (.tuple l) (n + 3) (k + 1) :=
  ⟨by simpa [PyData.showable] using a.sw, by simpa [PyData.hasDict] using a.nd, by
    simp only [PyData.depth]
    exact Nat.succ_le_succ a.dp, by
    have h := tupleText_len_le (PyData.shownAll l)
    have := a.le
    simp only [PyData.shown]
    omega⟩
theorem sho_lst {l : List PyData} {n k : Nat} (a : ShoA l n k) : Sho (.list l) (n + 3) (k + 1) :=
  ⟨by simpa [PyData.showable] using a.sw, by simpa [PyData.hasDict] using a.nd, by
    simp only [PyData.depth]
    exact Nat.succ_le_succ a.dp, by
    have h := listText_len_le (PyData.shownAll l)
    have := a.le
    simp only [PyData.shown]
    omega⟩
theorem Sho.mono {d : PyData} {m n j k : Nat} (a : Sho d m j) (h1 : m ≤ n) (h2 : j ≤ k) : Sho d n k := ⟨a.sw, a.nd, Nat.le_trans a.dp h2, Nat.le_trans a.le h1⟩
theorem sho_pr {p : Str × Int} (h1 : IsNm p.1) (h2 : Small p.2) : Sho (prD p) 2010 1 := (sho_tup (sho_cons (sho_str h1) (sho_cons (sho_int h2) sho_nil (k := 0)))).mono (by decide) (by decide)
theorem sho_prs : ∀ {t : Tab}, (∀ p ∈ t, IsNm p.1) → Sml t → ShoA (t.map prD) (2012 * t.length) 1
  | [], _, _ => sho_nil
  | p :: t, h1, h2 => by
    have a := sho_cons (sho_pr (h1 p (.head _)) (h2 p (.head _))) (sho_prs (t := t) (fun q hq => h1 q (.tail _ hq)) fun q hq => h2 q (.tail _ hq))
    refine ⟨a.sw, a.nd, a.dp, Nat.le_trans a.le ?_⟩
    simp only [List.length_cons]
    omega
theorem sho_tab {t : Tab} (h : Txr t) : Sho (tabD t) 121000 2 := (sho_tup (sho_prs h.nm h.sm)).mono (by have := h.len; omega) (by decide)
/-- repr of such data -/
theorem call_reprS {X : Cx} {n : Nat} (hr : Room (n + 1) X.A) (hg : X.A.guards = some []) : CallR X (.builtin "repr") (fun ys H Q => ∃ a d, ys = [.ref a] ∧ Dp X.K H (.ref a) d ∧ Sho d 2000000 10 ∧ Q (.str d.shown) H) := by
  intro pins s σ H ys us Q I r h
  obtain ⟨a, d, rfl, hd, hs, q⟩ := h
  exact call_reprP hr hg pins s σ H _ us Q I r ⟨a, d, rfl, hd, hs.sw, hs.nd, Nat.le_trans hs.dp (by decide), Nat.le_trans hs.le (by rw [sizeLine_eq]; decide), q⟩
theorem cr_or {X : Cx} {f : Value} {r1 r2 : List V → Hp → VK → Prop} (h1 : CallR X f r1) (h2 : CallR X f r2) : CallR X f (fun xs H Q => r1 xs H Q ∨ r2 xs H Q) :=
  fun pins s σ H xs us Q I r h => h.elim (h1 pins s σ H xs us Q I r) (h2 pins s σ H xs us Q I r)
end Kx
set_option Elab.async false
set_option linter.all false
set_option maxRecDepth 100000
set_option maxHeartbeats 4000000
namespace Kx
open PySem PySem.Spec PyProof.Rows L2
/-- a new pair of the i-th of both -/
def YZM (xs ys : List V) : Nat → Hp → V → Hp → Prop := fun i H v H' => ∃ T x y, v = .ref T ∧ H T = none ∧ H' = upd H T (.tup [x, y]) ∧ xs[i]? = some x ∧ ys[i]? = some y
theorem walk_zipM {K : PySem.W.Frag} {a b : Addr} {xs ys : List V} (hl : xs.length = ys.length) : Walk (ItzM K a b) xs.length (fun H => SqT K H a xs ∧ SqL K H b ys) (YZM xs ys) :=
  ⟨fun i _ hi q => ⟨xs, ys, xs[i], ys[i]'(by omega), q.1, q.2, by simp [hi], by simp [show i < ys.length by omega]⟩, fun _ q => ⟨xs, ys, q.1, q.2, rfl, hl⟩,
    fun i H v H' _ q y => by
      obtain ⟨T, x, y', e1, e2, e3, f1, f2⟩ := y
      exact ⟨T, x, y', e1, e2, e3, f1 _ q.1, f2 _ q.2⟩⟩
/-- entries with texts -/
def RowT : Row → Prop
  | .run x n => IsNm x ∧ Small n
  | .sum t => Txr t
theorem scal_str {x y : Str} : scal (.str x) (.str y) = true := rfl
section
variable {P : Program} {w : World} {K : PySem.W.Frag} {mg : Str → Option Value} {base : Heap}
def spRowsR : Sp := fun vs H Q _ => ∃ (k : Nat) (tv : V) (l : Addr) (xs : List V) (rs : List Row), vs = [tv, .int k, .ref l] ∧ TupOf K (RowV K k) H tv rs ∧ H l = some (.lst xs) ∧ Paired (LRowV K Nil H) xs rs ∧ k ≤ 8 ∧ rs.length ≤ 1000 ∧ (∀ r ∈ rs, RowT r) ∧ ∀ H', Same H H' → Q (.bl true) H'
theorem ok_lrowsR (T : Tx w K mg) : Fg P w K mg base 7 "_law_rows_right" ["_law_told", "_law_width", "_law_rows"] (spRowsR (K := K)) := by
  refine T.G__law_rows_right (fun vs H Q E h => ?_) (fun cdv A outer s H vs Q E hG hr h => ?_)
  · obtain ⟨_, _, _, _, _, rfl, _⟩ := h
    rfl
  obtain ⟨k, tv, l, xs, rs, rfl, ⟨a, zs, rfl, ha, hp⟩, hl, pd, hk8, hz, ht, fin⟩ := h
  have l1 := pd_len hp
  have l2 := pd_len pd
  refine ⟨_, pss_cons (ps_if (pw_or (pt_not (pt_val (pe_callB call_isi (by rfl) T.b_isinstance bt_isi (pa_cons (pv 0) (pa_cons (pe_bltn (v := .ty "tuple") (by rfl) T.b_tuple bt_tuple rfl) pa_nil)))))
      (pw_or1 (pt_cmpR op_ne (pe_callB call_len_seq (by rfl) T.b_len bt_len (pa_cons (pv 0) pa_nil)) (pe_callB call_len_seq (by rfl) T.b_len bt_len (pa_cons (pv 2) pa_nil)) (nomark _)))).pt (pss_one (ps_ret pe_bl)) pss_nil)
    (pss_cons (ps_for PassesOwn.never rfl (pi_zipM (by rfl) T.b_zip (pa_cons (pv 0) (pa_cons (pv 2) pa_nil))) (pg_tup rfl (pgs_cons (pg_name (i := 3) sc__law_rows_right.nd rfl (Or.inl rfl)) (pgs_cons (pg_name (i := 4) sc__law_rows_right.nd rfl (Or.inl rfl)) pgs_nil)))
      (pss_cons (ps_set (i := 5) sc__law_rows_right.nd rfl (Or.inl rfl) (pe_cmpR op_eq
          (pe_callB (cr_or (call_reprS (n := 5) (hr.mono (by decide)) hG) (call_reprO (C := CS K) (Mt1.own (ok_SRepr T)) (hr.mono (by decide)))) (by rfl) T.b_repr bt_repr (pa_cons (pv 3) pa_nil))
          (pe_callB (call_reprS (n := 5) (hr.mono (by decide)) hG) (by rfl) T.b_repr bt_repr (pa_cons (pv 4) pa_nil)) (nomark _)))
      (pss_cons (ps_if (pt_val (pe_callB call_isi (by rfl) T.b_isinstance bt_isi (pa_cons (pv 4) (pa_cons (pe_bltn (v := .ty "list") (by rfl) T.b_list bt_list rfl) pa_nil))))
        (pss_one (ps_set (i := 5) sc__law_rows_right.nd rfl (Or.inl rfl) (pe_and (pe_f (ok_is_summary T) (hr.mono (by decide)) (pa_cons (pv 3) pa_nil)) (pe_one (pe_cmpR op_eq
          (pe_callB (call_reprS (n := 5) (hr.mono (by decide)) hG) (by rfl) T.b_repr bt_repr (pa_cons (pe_lst (pa_cons (pe_fld (pv 3) rfl) (pa_cons (pe_fld (pv 3) rfl) pa_nil))) pa_nil))
          (pe_callB (call_reprS (n := 5) (hr.mono (by decide)) hG) (by rfl) T.b_repr bt_repr (pa_cons (pe_lst (pa_cons (pv 1) (pa_cons (pe_ix ix_list (pv 4) pe_int (fun _ _ => rfl)) pa_nil))) pa_nil)) (nomark _)))))) pss_nil)
      (pss_one (ps_if (pt_not (pt_val (pv 5))) (pss_one (ps_ret pe_bl)) pss_nil)))))
    (pss_one (ps_ret pe_bl))), ?_⟩
  refine ⟨_, rfl, _, _, _, _, true, rfl, .ty "tuple", ty_tup ha, kit_ty (by decide +kernel), true, rfl, ?_⟩
  have hne : (!decide ((V.int zs.length) = V.int xs.length)) = false := by rw [l1, l2]; simp
  refine ⟨_, rfl, a, zs, rfl, .inr ha, _, rfl, l, xs, rfl, .inl (SqL.of hl), rfl, _, congrArg V.bl hne, iteF ⟨_, rfl, _, rfl, a, l, zs, xs, rfl, ha, SqL.of hl, ?_⟩⟩
  have lz : zs.length = rs.length := l1
  refine for_it (walk_zipM (by rw [l1, l2])) (fun i σ H' => Same H H' ∧ ∃ x y z, σ = [some (.ref a), some (.int k), some (.ref l), x, y, z]) ⟨Same.refl _, none, none, none, rfl⟩ (fun i σ H' _ p => ⟨st_sm p.1 ha, SqL.of (p.1 _ _ hl)⟩) (fun i x σ H1 H2 hi p y => ?_) fun σ H1 p => ?_
  · obtain ⟨s1, x0, y0, z0, rfl⟩ := p
    obtain ⟨T0, u, v, rfl, hT, rfl, eu, ev⟩ := y
    obtain ⟨r, er, hu⟩ := pd_get hp eu
    obtain ⟨r', er', hv⟩ := pd_get pd ev
    obtain rfl : r = r' := Option.some.inj (er.symm.trans er')
    have s2 : Same H1 (upd H1 T0 (.tup [u, v])) := sm_new hT
    have s3 := s1.trans s2
    have tr := ht r (List.mem_of_getElem? er)
    refine ⟨T0, _, rfl, .inl (.inl upd_same), rfl, _, _, rfl, _, _, rfl, rfl, ?_⟩
    have hu2 := (stb_row T (k := k)).sm s3 hu
    have hv2 := lrow_sv (C := 0) (sm_sv s3) hv
    have fin1 : ∀ H3, Same H H3 → Same H H3 ∧ ∃ x y z, ([some (.ref a), some (.int k), some (.ref l), some u, some v, some (.bl true)] : L2.St) = [some (.ref a), some (.int k), some (.ref l), x, y, z] := fun H3 s => ⟨s, _, _, _, rfl⟩
    have parts : (∃ x n, r = .run x n ∧ PrV K (upd H1 T0 (.tup [u, v])) u (x, n) ∧ PrV K (upd H1 T0 (.tup [u, v])) v (x, n) ∧ IsNm x ∧ Small n) ∨
        (∃ t l2 u2, r = .sum t ∧ SumV K (upd H1 T0 (.tup [u, v])) u (k, t) ∧ v = .ref l2 ∧ upd H1 T0 (.tup [u, v]) l2 = some (.lst [u2]) ∧ TupOf K (PrV K) (upd H1 T0 (.tup [u, v])) u2 t ∧ Txr t) := by
      clear fin1
      cases r with
      | run x n => exact .inl ⟨x, n, rfl, hu2, hv2, tr⟩
      | sum t =>
        obtain ⟨l2, u2, e, h1, h2, _⟩ := hv2
        exact .inr ⟨t, l2, u2, rfl, hu2, e, h1, h2, tr⟩
    generalize eH : upd H1 T0 (.tup [u, v]) = H3 at parts s3 s2 ⊢
    clear hu2 hv2
    rcases parts with ⟨x, n, rfl, ⟨c1, rfl, hc1⟩, ⟨c2, rfl, hc2⟩, nm, sm⟩ | ⟨t, l2, u2, rfl, hs, rfl, h2, hu2, tx⟩
    · have sp := sho_pr (p := (x, n)) nm sm
      have sp2 : Sho (prD (x, n)) 2000000 10 := sp.mono (by decide) (by decide)
      have eq1 : decide (V.str (prD (x, n)).shown = V.str (prD (x, n)).shown) = true := decide_eq_true rfl
      refine ⟨_, rfl, .inl ⟨c1, prD (x, n), rfl, .tup hc1 (.cons (.str _) (.cons (.int _) .nil)), sp2, _, rfl, c2, prD (x, n), rfl, .tup hc2 (.cons (.str _) (.cons (.int _) .nil)), sp2, rfl, ?_⟩⟩
      rw [eq1]
      exact ⟨_, rfl, _, _, _, _, false, rfl, .ty "list", ty_tup hc2, kit_ty (by decide +kernel), false, rfl, iteF ⟨_, rfl, true, rfl, iteF (fin1 _ s3)⟩⟩
    · have st := sho_tab tx
      have dt := dp_tab hu2
      have hs0 := hs
      obtain ⟨p, dx, c, rfl, hp1, hc⟩ := hs
      have sl : Sho (.list [tabD t]) 2000000 10 := (sho_lst (sho_cons st (sho_nil (k := 2)))).mono (by decide) (by decide)
      have se : Sho (.list [.int (k : Int), tabD t]) 2000000 10 := (sho_lst (sho_cons (sho_int (small_of (b := 4) (by omega) (by omega) (by decide))) (sho_cons st (sho_nil (k := 2))))).mono (by decide) (by decide)
      refine ⟨_, rfl, .inr ⟨p, dx, _, rfl, hp1, _, (k, t), rfl, hs0, hk8, tx.t9, fun H4 s4 => ⟨_, rfl, _, rfl, l2, _, rfl, .lst (SqL.of (s4 _ _ h2)) (.cons (dp_tab (prs_same s4 hu2)) .nil), sl, rfl, ?_⟩⟩⟩
      generalize decide (V.str (rS k t) = V.str (PyData.list [tabD t]).shown) = b0
      have h24 := s4 _ _ h2
      have hp4 := s4 _ _ hp1
      have hc4 := prs_same s4 hc
      have hu4 := prs_same s4 hu2
      refine ⟨_, rfl, _, _, _, _, true, rfl, .ty "list", .base (.lst h24), kit_ty (by decide +kernel), true, rfl, iteT ⟨_, rfl, _, k, .sum t, rfl, sum_same s4 hs0, true, rfl, iteT ?_⟩⟩
      refine ⟨_, rfl, p, _, dx, _, _, rfl, hp4, T.c_Summary, T.n_Summary_capacity, lk_c0, _, rfl, p, _, dx, _, _, rfl, hp4, T.c_Summary, T.n_Summary_counts, lk_cc, by show 2 ≤ sizeLine; decide, fun p5 h5 => ?_⟩
      have s5 : Same H4 (upd H4 p5 (.lst [.int (k : Int), c])) := sm_new h5
      refine ⟨p5, .list [.int (k : Int), tabD t], rfl, .lst (SqL.of upd_same) (.cons (.int _) (.cons (dp_tab (prs_same s5 hc4)) .nil)), se, ?_⟩
      refine ⟨_, rfl, _, rfl, l2, _, 0, _, rfl, rfl, SqL.of (s5 _ _ h24), atI_nat (j := 0) rfl, by show 2 ≤ sizeLine; decide, fun p6 h6 => ?_⟩
      have s6 := sm_new (o := .lst [.int (k : Int), u2]) h6
      refine ⟨p6, .list [.int (k : Int), tabD t], rfl, .lst (SqL.of upd_same) (.cons (.int _) (.cons (dp_tab (prs_same s6 (prs_same s5 hu4))) .nil)), se, rfl, ?_⟩
      have eq1 : decide (V.str (PyData.list [.int (k : Int), tabD t]).shown = V.str (PyData.list [.int (k : Int), tabD t]).shown) = true := decide_eq_true rfl
      rw [eq1]
      exact ⟨_, rfl, true, rfl, iteF (fin1 _ (s3.trans (s4.trans (s5.trans s6))))⟩
  · exact fin H1 p.1
end
end Kx
set_option Elab.async false
set_option linter.all false
set_option maxRecDepth 100000
set_option maxHeartbeats 4000000
namespace Kx
open PySem PySem.Spec PyProof.Rows L2
theorem fold_tk : ∀ (l t : Tab) (k : Nat), Tk k t → (∀ p ∈ l, 1 ≤ p.2) → t.length + l.length ≤ k → Tk k (l.foldl (fun t p => add t p.1 p.2) t)
  | [], t, k, h, _, _ => h
  | p :: l, t, k, h, hl, hz => by
    have a := add_len t p.1 p.2
    rw [List.length_cons] at hz
    exact fold_tk l (add t p.1 p.2) k (add_tk h (hl p (.head _)) (.inr (by omega))) (fun q hq => hl q (.tail _ hq)) (by omega)
theorem tab_ge {k : Nat} {q : Sta} (h : StOk k q) : ∀ p ∈ tab (runsOf q.2), 1 ≤ p.2 := by
  refine (fold_tk (runsOf q.2) [] (runsOf q.2).length ⟨by simp [nms], (fun p hp => by cases hp), Nat.zero_le _⟩ (fun p hp => ?_) (by simp)).ge
  obtain ⟨r, hr, e⟩ := List.mem_filterMap.mp hp
  have hok := h.r r hr
  cases r with
  | run x n =>
    cases e
    exact hok.2
  | sum t => cases e
/-- a state with texts -/
structure StT (k : Nat) (q : Sta) : Prop where
  ok : StOk k q
  b : Txr q.1
  r : ∀ r ∈ q.2, RowT r
  cur : Txr (cur k q)
  arr : (tab (runsOf q.2)).length ≤ 12 → Txr (flatP (tab (runsOf q.2)))
  len : q.2.length ≤ 90
section
variable {P : Program} {w : World} {K : PySem.W.Frag} {mg : Str → Option Value} {base : Heap}
def spToldR : Sp := fun vs H Q _ => ∃ (k : Nat) (p : Addr) (v : V) (c : Col), vs = [.ref p, .int k, v] ∧ ColAt K k H p c ∧ LStV K Nil H v c.q ∧ StT k c.q ∧ 1 ≤ k ∧ k ≤ 8 ∧ ∀ H', Same H H' → Q (.bl true) H'
theorem ok_ltoldR (T : Tx w K mg) : Fg P w K mg base 12 "_law_told_right" ["_law_box", "_law_width", "_law_state"] (spToldR (K := K)) := by
  refine T.G__law_told_right (fun vs H Q E h => ?_) (fun cdv A outer s H vs Q E hG hr h => ?_)
  · obtain ⟨_, _, _, _, rfl, _⟩ := h
    rfl
  obtain ⟨k, p, v, c, rfl, hc, hv, ht, hk, hk8, fin⟩ := h
  have hu := hu_of hr
  refine ⟨_, pss_cons (ps_par (i := 3) (j := 4) rfl sc__law_told_right.nd rfl rfl (by decide) rfl rfl (pa_cons (pe_f (ok_lnow T) (hr.mono (by decide)) (pa_cons (pv 1) (pa_cons (pv 2) pa_nil)))
      (pa_cons (pe_lc (own := [("_law_row", 5)]) (g := gName 5) rfl sc__law_told_right.nd (pi_list (pe_ix ix_tup (pv 2) pe_int (fun _ _ => rfl))) (blkOk_by (N := n__law_told_right) (sc := defScope s__law_told_right) (by decide +kernel))
        (fun _ _ _ _ _ => pg_name (i := 5) sc__law_told_right.nd rfl (Or.inl rfl)) (fun _ _ _ _ _ => pts_one (pt_not (pt_val (pe_callB (r := rIsi K) call_isi (by rfl) T.b_isinstance bt_isi (pa_cons (pv 5) (pa_cons (pe_bltn (v := .ty "list") (by rfl) T.b_list bt_list rfl) pa_nil)))))) (fun _ _ _ _ _ => pv 5)) pa_nil)) (by kernel_rfl))
    (pss_cons (ps_set (i := 6) sc__law_told_right.nd rfl (Or.inl rfl) (pe_lst (pa_cons (pe_fld (pv 0) rfl) (pa_cons (pe_fld (pe_m0 (ok_CStart T) (hr.mono (by decide)) (pv 0)) rfl) (pa_cons (pe_fld (pe_m0 (ok_CStart T) (hr.mono (by decide)) (pv 0)) rfl)
      (pa_cons (pe_fld (pe_m0 (ok_CCurrent T) (hr.mono (by decide)) (pv 0)) rfl) (pa_cons (pe_fld (pe_m0 (ok_CCurrent T) (hr.mono (by decide)) (pv 0)) rfl) pa_nil)))))))
    (pss_cons (ps_if (pw_or (pt_cmpR op_ne (pe_callB (call_reprS (n := 5) (hr.mono (by decide)) hG) (by rfl) T.b_repr bt_repr (pa_cons (pv 6) pa_nil))
        (pe_callB (call_reprS (n := 5) (hr.mono (by decide)) hG) (by rfl) T.b_repr bt_repr (pa_cons (pe_lst (pa_cons (pv 1) (pa_cons (pv 1) (pa_cons (pe_ix ix_tup (pv 2) pe_int (fun _ _ => rfl)) (pa_cons (pv 1) (pa_cons (pv 3) pa_nil)))))) pa_nil)) (nomark _))
      (pw_or1 (pt_cmpR op_ne (pe_callTy (call_strO (C := CC K) (Mt1.own (ok_CStr T)) (hr.mono (by decide))) (by rfl) T.b_str bt_str (pa_cons (pv 0) pa_nil)) (pe_f (ok_ltext T) (hr.mono (by decide)) (pa_cons (pv 3) pa_nil)) (nomark _)))).pt (pss_one (ps_ret pe_bl)) pss_nil)
    (pss_cons (ps_if (pw_or (pt_cmpR op_ne (pe_callB (call_reprO (C := CC K) (Mt1.own (ok_CRepr T)) (hr.mono (by decide))) (by rfl) T.b_repr bt_repr (pa_cons (pv 0) pa_nil))
        (pe_op op_add_str (pe_op op_add_str (pe_op op_add_str (pe_op op_add_str pe_str (pe_callTy call_str_int (by rfl) T.b_str bt_str (pa_cons (pv 1) pa_nil))) pe_str) (pe_callTy call_str_int (by rfl) T.b_str bt_str (pa_cons (pe_callB call_len_seq (by rfl) T.b_len bt_len (pa_cons (pe_ix ix_tup (pv 2) pe_int (fun _ _ => rfl)) pa_nil)) pa_nil))) pe_str) (nomark _))
      (pw_or1 (pt_cmpR op_ne (pe_callB (call_lenO (C := CC K) (Mt1.own (ok_CLen T)) (hr.mono (by decide))) (by rfl) T.b_len bt_len (pa_cons (pv 0) pa_nil)) (pe_callB call_len_seq (by rfl) T.b_len bt_len (pa_cons (pe_ix ix_tup (pv 2) pe_int (fun _ _ => rfl)) pa_nil)) (nomark _)))).pt (pss_one (ps_ret pe_bl)) pss_nil)
    (pss_cons (ps_set (i := 7) sc__law_told_right.nd rfl (Or.inl rfl) pe_dnewK)
    (pss_cons (ps_for PassesOwn.never rfl (pi_list (pv 4)) (pg_tup rfl (pgs_cons (pg_name (i := 8) sc__law_told_right.nd rfl (Or.inl rfl)) (pgs_cons (pg_name (i := 9) sc__law_told_right.nd rfl (Or.inl rfl)) pgs_nil)))
      (pss_one (ps_asg (pe_op op_add (pe_dget2 hu (pv 7) (pv 8) pe_int ⟨rfl, rfl, rfl, rfl⟩) (pv 9)) (pg_sub (pv 7) (pv 8) (set_dict hu)))))
    (pss_cons (ps_if (pw_and (pt_cmpR op_lt (pe_callB call_lenD (by rfl) T.b_len bt_len (pa_cons (pv 7) pa_nil)) pe_int (nomark _))
      (pw_and1 (pt_cmpR op_ne (pe_callB (call_reprS (n := 5) (hr.mono (by decide)) hG) (by rfl) T.b_repr bt_repr (pa_cons (pe_m0 (ok_CArrived T) (hr.mono (by decide)) (pv 0)) pa_nil))
        (pe_callB (call_reprS (n := 5) (hr.mono (by decide)) hG) (by rfl) T.b_repr bt_repr (pa_cons (pe_f (ok_lflat T) (hr.mono (by decide)) (pa_cons (pv 7) pa_nil)) pa_nil)) (nomark _)))).pt (pss_one (ps_ret pe_bl)) pss_nil)
    (pss_one (ps_ret (pe_g (ok_lrowsR T) hG (hr.mono (by decide)) (pa_cons (pe_m0 (ok_CEntries T) (hr.mono (by decide)) (pv 0)) (pa_cons (pv 1) (pa_cons (pe_ix ix_tup (pv 2) pe_int (fun _ _ => rfl)) pa_nil)))))))))))), ?_⟩
  have hv0 := hv
  obtain ⟨ps, b, l, xs, rfl, hps, hb, hl, pd, _⟩ := hv
  have pl := pd_len pd
  have tl := ht.len
  refine ⟨_, rfl, _, rfl, k, _, c.q, Nil, rfl, hv0, ht.ok, hk, hk8, fun nw H1 s1 hnw => ?_⟩
  refine ⟨_, rfl, ps, _, 1, _, rfl, rfl, st_sm s1 hps, atI_nat (j := 1) rfl, l, rfl, ⟨xs, SqL.of (s1 _ _ hl)⟩, fun D hD => ?_⟩
  refine lc_R (C := 0) walk_list c.q.2 (fun r => !r.isS) Row.pr (PrV K) stb_pr pl.symm (by omega) hD (fun H' s => SqL.of (s _ _ (s1 _ _ hl))) (fun i r v H2 H3 F1 F0 hi s y f1 f0 => ?_) fun ys H2 s2 hy q => ?_
  · obtain ⟨rfl, ex⟩ := y
    obtain ⟨r', er, hr'⟩ := pd_get pd ex
    rw [hi] at er
    cases er
    have hr2 := lrow_sv (C := 0) (sm_sv (s1.trans s)) hr'
    have parts : (∃ x n, r = .run x n ∧ PrV K H3 v (x, n)) ∨ (∃ t l2 u2, r = .sum t ∧ v = .ref l2 ∧ H3 l2 = some (.lst [u2])) := by
      cases r with
      | run x n => exact .inl ⟨x, n, rfl, hr2⟩
      | sum t =>
        obtain ⟨l2, u2, e, h1, _⟩ := hr2
        exact .inr ⟨t, l2, u2, rfl, e, h1⟩
    rcases parts with ⟨x, n, rfl, hx⟩ | ⟨t, l2, u2, rfl, rfl, h2⟩
    · have hx0 := hx
      obtain ⟨c1, rfl, hc1⟩ := hx
      exact ⟨rfl, _, rfl, _, _, _, _, false, rfl, .ty "list", ty_tup hc1, kit_ty (by decide +kernel), false, rfl, iteT ⟨_, rfl, f1 rfl _ _ (Same.refl _) hx0⟩⟩
    · exact ⟨rfl, _, rfl, _, _, _, _, true, rfl, .ty "list", .base (.lst h2), kit_ty (by decide +kernel), true, rfl, iteF (f0 rfl _ (Same.refl _))⟩
  · rw [← runsOf_eq] at q
    have s12 := s1.trans s2
    have hc0 := col_same s12 hc
    have hc2 := hc0
    obtain ⟨dx, bg, rw0, pt, h2, hbg, hrw, hpst⟩ := hc2
    refine ⟨_, _, rfl, ?_⟩
    refine ⟨_, rfl, p, _, dx, _, _, rfl, h2, T.c_Collector, T.n_Collector_capacity, fl_capacity, _, rfl, p, dx, _, rfl, h2, fl_no rfl, k, p, c, rfl, hc0, fun u1 hu1 => ?_⟩
    obtain ⟨p1, d1, c1, rfl, hp1, hc1⟩ := hu1
    refine ⟨p1, _, d1, _, _, rfl, hp1, T.c_Summary, T.n_Summary_capacity, lk_c0, _, rfl, p, dx, _, rfl, h2, fl_no rfl, k, p, c, rfl, hc0, fun u2 hu2 => ?_⟩
    obtain ⟨p2, d2, c2, rfl, hp2, hc2⟩ := hu2
    refine ⟨p2, _, d2, _, _, rfl, hp2, T.c_Summary, T.n_Summary_counts, lk_cc, _, rfl, p, dx, _, rfl, h2, fl_no rfl, k, p, c, rfl, hc0, ht.ok, hk, hk8, fun u3 H3 s3 hu3 => ?_⟩
    obtain ⟨p3, d3, c3, rfl, hp3, hc3⟩ := hu3
    have hcol3 := col_same s3 hc0
    refine ⟨p3, _, d3, _, _, rfl, hp3, T.c_Summary, T.n_Summary_capacity, lk_c0, _, rfl, p, dx, _, rfl, s3 _ _ h2, fl_no rfl, k, p, c, rfl, hcol3, ht.ok, hk, hk8, fun u4 H4 s4 hu4 => ?_⟩
    obtain ⟨p4, d4, c4, rfl, hp4, hc4⟩ := hu4
    refine ⟨p4, _, d4, _, _, rfl, hp4, T.c_Summary, T.n_Summary_counts, lk_cc, by show 5 ≤ sizeLine; decide, fun pl5 h5 => ?_⟩
    have s5 := sm_new (o := .lst [.int (k : Int), .int (k : Int), c2, .int (k : Int), c4]) h5
    have sk : Sho (.int (k : Int)) 1921 0 := sho_int (small_of (b := 4) (by omega) (by omega) (by decide))
    have tb := sho_tab ht.b
    have tc := sho_tab ht.cur
    have S5 : Sho (.list [.int (k : Int), .int (k : Int), tabD c.q.1, .int (k : Int), tabD (cur k c.q)]) 2000000 10 := (sho_lst (sho_cons sk (sho_cons sk (sho_cons tb (sho_cons sk (sho_cons tc (sho_nil (k := 2)))))))).mono (by decide) (by decide)
    have s35 := s3.trans (s4.trans s5)
    have s15 := s12.trans s35
    have dc2 := prs_same s35 hc2
    have dc4 := prs_same s5 hc4
    have db5 := prs_same s15 hb
    have dn5 := prs_same (s2.trans s35) hnw
    have hps5 := st_sm s15 hps
    refine ⟨_, rfl, pl5, _, rfl, .lst (SqL.of upd_same) (.cons (.int _) (.cons (.int _) (.cons (dp_tab dc2) (.cons (.int _) (.cons (dp_tab dc4) .nil))))), S5, ?_⟩
    have h5i : upd H4 pl5 (.lst [.int (k : Int), .int (k : Int), c2, .int (k : Int), c4]) p = some (.ins (CC K) dx (fl k bg rw0 pt c.busy c.n)) := s35 _ _ h2
    have hl5 := s15 _ _ hl
    generalize upd H4 pl5 (.lst [.int (k : Int), .int (k : Int), c2, .int (k : Int), c4]) = H5 at s5 s35 s15 dc2 dc4 db5 dn5 hps5 h5i hl5 ⊢
    refine ⟨_, rfl, _, rfl, _, rfl, ps, _, 0, _, rfl, rfl, hps5, atI_nat (j := 0) rfl, _, rfl, _, rfl, by show 5 ≤ sizeLine; decide, fun p6 h6 => ?_⟩
    have s6 := sm_new (o := .lst [.int (k : Int), .int (k : Int), b, .int (k : Int), nw]) h6
    have sf := fun {x : V} => (by simp : (!decide (x = x)) = false)
    refine ⟨p6, _, rfl, .lst (SqL.of upd_same) (.cons (.int _) (.cons (.int _) (.cons (dp_tab (prs_same s6 db5)) (.cons (.int _) (.cons (dp_tab (prs_same s6 dn5)) .nil))))), S5, rfl, _, congrArg V.bl sf, iteF ?_⟩
    have s16 := s15.trans s6
    refine ⟨_, rfl, p, dx, _, rfl, s6 _ _ h5i, k, p, c, rfl, col_same (s35.trans s6) hc0, ht.ok, hk, hk8, ht.cur.t9, fun H7 s7 => ⟨_, rfl, ?_⟩⟩
    refine ⟨_, rfl, nw, cur k c.q, rfl, prs_same (s6.trans s7) dn5, ht.cur.t9.nm, ht.cur.t9.sm, ht.cur.t9.len, fun H8 s8 => ⟨rfl, _, congrArg V.bl sf, iteF ?_⟩⟩
    have s58 := s6.trans (s7.trans s8)
    have s18 := s15.trans s58
    have hc8 := col_same (s35.trans s58) hc0
    have h8i := s58 _ _ h5i
    have hl8 := s58 _ _ hl5
    have hps8 := st_sm s58 hps5
    have sk1 : Small (k : Int) := small_of (b := 4) (by omega) (by omega) (by decide)
    have sk2 : Small (xs.length : Int) := small_of (b := 8) (by omega) (by omega) (by decide)
    have z : sizeLine = 16777216 := sizeLine_eq
    have e1 := PyProof.Rows.int_text_len_1921 sk1
    have e2 := PyProof.Rows.int_text_len_1921 sk2
    refine ⟨_, rfl, p, dx, _, rfl, h8i, k, p, c, rfl, hc8, hk8, by omega, _, rfl, ?_⟩
    refine ⟨_, rfl, k, rfl, sk1, _, _, rfl, rfl, ?_, _, _, rfl, rfl, ?_, _, rfl, ps, _, 1, _, rfl, rfl, hps8, atI_nat (j := 1) rfl, l, xs, rfl, .inl (SqL.of hl8), _, rfl, sk2, _, _, rfl, rfl, ?_, _, _, rfl, rfl, ?_, ?_⟩
    · show 10 + (Str.ofString (toString (k : Int))).length ≤ sizeLine
      omega
    · rw [PySem.Str.length_append]
      show 10 + (Str.ofString (toString (k : Int))).length + 2 ≤ sizeLine
      omega
    · rw [PySem.Str.length_append, PySem.Str.length_append]
      show 10 + (Str.ofString (toString (k : Int))).length + 2 + (Str.ofString (toString (xs.length : Int))).length ≤ sizeLine
      omega
    · rw [PySem.Str.length_append, PySem.Str.length_append, PySem.Str.length_append]
      show 10 + (Str.ofString (toString (k : Int))).length + 2 + (Str.ofString (toString (xs.length : Int))).length + 9 ≤ sizeLine
      omega
    · have er : rC k c.q.2.length = ((((("Collector(" : Str)) ++ (toString (k : Int) : String)) ++ (", " : Str)) ++ (toString (xs.length : Int) : String)) ++ (" entries)" : Str) := by
        unfold rC
        rw [PySem.Str.empty_append, pl]
      refine ⟨rfl, _, congrArg V.bl (by rw [er]; exact sf), iteF ?_⟩
      refine ⟨_, rfl, p, dx, _, rfl, h8i, k, p, c, rfl, hc8, _, rfl, by omega, by omega, ?_⟩
      refine ⟨_, rfl, ps, _, 1, _, rfl, rfl, hps8, atI_nat (j := 1) rfl, l, xs, rfl, .inl (SqL.of hl8), rfl, _, congrArg V.bl (by rw [pl]; exact sf), iteF ?_⟩
      intro d hd
      have s28 := s35.trans s58
      have rl : (runsOf c.q.2).length ≤ 90 := by
        rw [runsOf_eq, List.length_map]
        exact Nat.le_trans (List.length_filter_le ..) tl
      have ql := pd_len q
      have sd : Same H8 (upd H8 d (.dK [])) := sm_new hd
      refine ⟨_, rfl, D, rfl, ⟨ys, SqL.of ((s28.trans sd) _ _ hy)⟩, ?_⟩
      refine for_it walk_list (fun i σ H' => Same H8 H' ∧ (∃ x y, σ = [some (.ref p), some (.int k), some (.ref ps), some nw, some (.ref D), none, some (.ref pl5), some (.ref d), x, y]) ∧ H' d = some (.dK (kd (tab ((runsOf c.q.2).take i))))) ⟨sd, ⟨none, none, rfl⟩, upd_same⟩ (fun i σ H' _ z => SqL.of (z.1 _ _ (s28 _ _ hy))) (fun i x σ H9 H10 hi z y => ?_) fun σ H9 z => ?_
      · obtain ⟨s9, ⟨x0, y0, rfl⟩, h9⟩ := z
        obtain ⟨rfl, ex⟩ := y
        obtain ⟨r, er, b1, rfl, hb1⟩ := pd_get q ex
        have et : (runsOf c.q.2).take (i + 1) = (runsOf c.q.2).take i ++ [r] := by
          rw [List.take_succ, er]
          rfl
        refine ⟨b1, _, rfl, st_sm (s28.trans s9) hb1, rfl, _, _, rfl, _, _, rfl, rfl, ?_⟩
        refine ⟨_, rfl, d, rfl, .inl ⟨_, .inl h9⟩, _, rfl, _, dgo (.inl h9), _, rfl, _, _, getD_val _ _, rfl, ?_⟩
        refine ⟨_, rfl, _, rfl, d, _, rfl, DPut.k (k := .inr r.1) h9 ?_, sm_mut s9 hd, ⟨_, _, rfl⟩, ?_⟩
        · rw [kd_len]
          have := tab_len ((runsOf c.q.2).take i)
          rw [List.length_take] at this
          exact small1000 (by omega)
        · rw [upd_same, kd_put, et, tab_snoc]
          rfl
      · obtain ⟨s9, ⟨x0, y0, rfl⟩, h9⟩ := z
        rw [ql, List.take_length] at h9
        have s19 := s18.trans s9
        have tlen := tab_len (runsOf c.q.2)
        have last : ∀ H', Same H9 H' → Same H H' ∧ H' p = some (.ins (CC K) dx (fl k bg rw0 pt c.busy c.n)) ∧ ColAt K k H' p c ∧ SqT K H' ps [b, .ref l] ∧ H' l = some (.lst xs) ∧ Paired (LRowV K Nil H') xs c.q.2 := fun H' s' =>
          ⟨s19.trans s', s' _ _ (s9 _ _ h8i), col_same (s9.trans s') hc8, st_sm (s19.trans s') hps, (s19.trans s') _ _ hl, pd_imp (fun _ _ => lrow_sv (C := 0) (sm_sv (s19.trans s'))) pd⟩
        refine ⟨_, rfl, d, _, rfl, h9, _, _, rfl, rfl, _, rfl, ?_⟩
        rw [kd_len]
        rcases Nat.lt_or_ge (tab (runsOf c.q.2)).length 13 with lt | ge
        · rw [decide_eq_true (show ((tab (runsOf c.q.2)).length : Int) < 13 by omega)]
          have h9i := s9 _ _ h8i
          have tr := ht.arr (by omega)
          have eqf : flatP (tab (runsOf c.q.2)) = flat (tab (runsOf c.q.2)) := flatP_flat (tab_nd _) (tab_ge ht.ok)
          refine iteT ⟨_, rfl, p, dx, _, rfl, h9i, fl_no rfl, k, p, c, rfl, (last H9 (Same.refl _)).2.2.1, by omega, by omega, fun u5 H10 s10 hu5 => ?_⟩
          have dp5 := dp_tab hu5
          obtain ⟨a5, _, rfl, _⟩ := hu5
          refine ⟨a5, _, rfl, dp5, (sho_tab tr).mono (by decide) (by decide), ?_⟩
          refine ⟨_, rfl, d, tab (runsOf c.q.2), rfl, s10 _ _ h9, by omega, fun u6 H11 s11 hu6 => ?_⟩
          have dp6 := dp_tab hu6
          obtain ⟨a6, _, rfl, _⟩ := hu6
          refine ⟨a6, _, rfl, dp6, by rw [← eqf]; exact (sho_tab tr).mono (by decide) (by decide), rfl, _, congrArg V.bl (by rw [← eqf]; exact sf), iteF ?_⟩
          obtain ⟨g1, g2, g3, g4, g5, g6⟩ := last H11 (s10.trans s11)
          exact ⟨_, rfl, p, dx, _, rfl, g2, fl_no rfl, k, p, c, rfl, g3, fun u hu => ⟨_, rfl, _, rfl, ps, _, 1, _, rfl, rfl, g4, atI_nat (j := 1) rfl, k, u, l, xs, c.q.2, rfl, hu, g5, g6, hk8, by omega, ht.r, fun H' s' => fin _ (g1.trans s')⟩⟩
        · rw [decide_eq_false (show ¬ ((tab (runsOf c.q.2)).length : Int) < 13 by omega)]
          obtain ⟨g1, g2, g3, g4, g5, g6⟩ := last H9 (Same.refl _)
          exact iteF (iteF ⟨_, rfl, p, dx, _, rfl, g2, fl_no rfl, k, p, c, rfl, g3, fun u hu => ⟨_, rfl, _, rfl, ps, _, 1, _, rfl, rfl, g4, atI_nat (j := 1) rfl, k, u, l, xs, c.q.2, rfl, hu, g5, g6, hk8, by omega, ht.r, fun H' s' => fin _ (g1.trans s')⟩⟩)
end
end Kx
set_option Elab.async false
set_option linter.all false
set_option maxRecDepth 100000
set_option maxHeartbeats 4000000
namespace Kx
open PySem PySem.Spec PyProof.Rows L2
/-! ### bounds -/
def LeT (M : Int) (t : Tab) : Prop := ∀ p ∈ t, p.2 ≤ M
theorem val_le {t : Tab} {M : Int} (h0 : 0 ≤ M) (h : LeT M t) (y : Str) : val t y ≤ M := by
  unfold val lk
  cases e : t.find? fun p => decide (p.1 = y) with
  | none => exact h0
  | some p => exact h p (List.mem_of_find?_eq_some e)
theorem add_le {t : Tab} {M n : Int} {x : Str} (h0 : 0 ≤ M) (h : LeT M t) (hn : 0 ≤ n) : LeT (M + n) (add t x n) := fun p hp => by
  rcases mem_put hp with z | z
  · have := h p z
    omega
  · have := val_le h0 h x
    rw [z]
    show val t x + n ≤ M + n
    omega
theorem low_le {t : Tab} {M s : Int} (h : LeT M t) (hs : 0 ≤ s) : LeT M (low t s) := fun p hp => by
  obtain ⟨q, hq, _, rfl⟩ := low_mem.mp hp
  have := h q hq
  show q.2 - s ≤ M
  omega
theorem mn_nn {t : Tab} (h : ∀ p ∈ t, 1 ≤ p.2) : 0 ≤ mn t := by
  by_cases e : t = []
  · rw [e]
    exact Int.le_refl _
  · have := mn_ge h e
    omega
theorem arr_le {k : Nat} {t : Tab} {M n : Int} {x : Str} (h0 : 0 ≤ M) (hg : ∀ p ∈ t, 1 ≤ p.2) (h : LeT M t) (hn : 1 ≤ n) : LeT (M + n) (arr k t x n).1 := by
  have m0 := mn_nn hg
  have up : ∀ {u : Tab}, LeT M u → LeT (M + n) u := fun {u} g p hp => by
    have := g p hp
    omega
  by_cases c : x ∉ nms t ∧ t.length = k
  · rw [arr_red (by omega) c.1 c.2]
    have l1 := low_le (s := min n (mn t)) h (by omega)
    show LeT (M + n) (if _ then _ else _)
    split
    · intro p hp
      have := add_le h0 l1 (by omega) p hp
      omega
    · exact up l1
  · rw [arr_in (by omega) c]
    exact add_le h0 h (by omega)
theorem flat_le {t : Tab} {M : Int} (nd : (nms t).Nodup) (h : LeT M t) : LeT M (flat t) := fun p hp => h p ((flat_mem nd).mp hp)
theorem fold_le {N : Int} (hN : 0 ≤ N) : ∀ (l t : Tab) (M : Int), 0 ≤ M → LeT M t → (∀ p ∈ l, 0 ≤ p.2 ∧ p.2 ≤ N) → LeT (M + l.length * N) (l.foldl (fun t p => add t p.1 p.2) t)
  | [], t, M, _, h, _ => fun p hp => by
    have := h p hp
    simp
    omega
  | q :: l, t, M, h0, h, hl => by
    have hq := hl q (.head _)
    have e : M + ((q :: l).length : Nat) * N = (M + N) + l.length * N := by
      rw [List.length_cons, Int.natCast_add, Int.add_mul]
      omega
    rw [e]
    refine fold_le hN l (add t q.1 q.2) (M + N) (by omega) (fun p hp => ?_) fun p hp => hl p (.tail _ hp)
    have := add_le h0 h hq.1 p hp
    omega
theorem cut_nn {k : Nat} {t : Tab} (h : ∀ p ∈ t, 1 ≤ p.2) : 0 ≤ cut k t := by
  unfold cut
  split
  · rename_i c
    have hl : k < (rk t).length := by rw [rk_len]; exact c
    have e0 : (rk t).getD k 0 = (rk t)[k] := by simp [hl]
    rw [e0]
    obtain ⟨p, hp, e⟩ := List.mem_map.mp ((rk_perm t).mem_iff.mp (List.getElem_mem hl))
    have := h p hp
    omega
  · exact Int.le_refl _
theorem mrg_le {k : Nat} {a b : Tab} {M N : Int} (ca : Cn k a) (cb : Cn k b) (h0 : 0 ≤ M) (hN : 0 ≤ N) (ha : LeT M a) (hb : LeT N b) : LeT (M + k * N) (mrg k a b) := by
  have nd := tab_nd (a ++ b)
  have e : tab (a ++ b) = b.foldl (fun t p => add t p.1 p.2) a := by rw [tab_app, tab_id (asc_nd ca.asc)]
  have tk : ∀ p ∈ tab (a ++ b), 1 ≤ p.2 := by
    rw [e]
    exact (fold_tk b a (a.length + b.length) ⟨asc_nd ca.asc, ca.ge, Nat.le_add_right ..⟩ cb.ge (Nat.le_refl _)).ge
  have l1 : LeT (M + k * N) (tab (a ++ b)) := fun p hp => by
    rw [e] at hp
    have := fold_le hN b a M h0 ha (fun q hq => ⟨by have := cb.ge q hq; omega, hb q hq⟩) p hp
    have m : (b.length : Int) * N ≤ (k : Int) * N := Int.mul_le_mul_of_nonneg_right (by have := cb.len; omega) hN
    omega
  rw [mrg_low]
  exact flat_le (low_nd nd) (low_le l1 (cut_nn tk))
def RowBd : Row → Prop
  | .run _ n => n ≤ bigN
  | .sum t => LeT bigN t
theorem step_le {k : Nat} {b : Tab} {r : Row} {M : Int} (hk : 1 ≤ k) (hk8 : k ≤ 8) (hb : Cn k b) (hr : RowOk k r) (bd : RowBd r) (h0 : 0 ≤ M) (h : LeT M b) : LeT (M + 8 * bigN) (step k b r) := by
  have hN : bigN = 1000000000000000000000000000000 := by decide +kernel
  cases r with
  | run x n =>
    have hn := hr.2
    have bd : n ≤ bigN := bd
    have l1 := flat_le (arr_tk hk hb.tk (n := n) (x := x) (by omega)).nd (arr_le (k := k) (x := x) h0 hb.ge h hn)
    intro p hp
    have := l1 p hp
    omega
  | sum t =>
    have l1 := mrg_le hb hr h0 (by omega) h bd
    have m : (k : Int) * bigN ≤ 8 * bigN := Int.mul_le_mul_of_nonneg_right (by omega) (by omega)
    intro p hp
    have := l1 p hp
    omega
theorem cur_le {k : Nat} (hk : 1 ≤ k) (hk8 : k ≤ 8) : ∀ (l : List Row) (b : Tab) (M : Int), Cn k b → (∀ r ∈ l, RowOk k r) → (∀ r ∈ l, RowBd r) → 0 ≤ M → LeT M b → LeT (M + l.length * (8 * bigN)) (l.foldl (step k) b)
  | [], b, M, _, _, _, _, h => fun p hp => by
    have := h p hp
    simp
    omega
  | r :: l, b, M, hb, hr, bd, h0, h => by
    have hN : bigN = 1000000000000000000000000000000 := by decide +kernel
    have e : M + ((r :: l).length : Nat) * (8 * bigN) = (M + 8 * bigN) + l.length * (8 * bigN) := by
      rw [List.length_cons, Int.natCast_add, Int.add_mul]
      omega
    rw [e]
    exact cur_le hk hk8 l (step k b r) (M + 8 * bigN) (step_cn hk hb (hr r (.head _))) (fun q hq => hr q (.tail _ hq)) (fun q hq => bd q (.tail _ hq)) (by omega) (step_le hk hk8 hb (hr r (.head _)) (bd r (.head _)) h0 h)
structure StBd (q : Sta) : Prop where
  b : LeT bigN q.1
  r : ∀ r ∈ q.2, RowBd r
abbrev hugeN : Int := 1000000000000000000000000000000000000
theorem small_huge {i : Int} (h0 : 0 ≤ i) (h : i ≤ hugeN) : Small i := small_of (b := 200) h0 (by
  have : (1000000000000000000000000000000000000 : Nat) < 2 ^ 200 := by decide +kernel
  have h : i ≤ 1000000000000000000000000000000000000 := h
  omega) (by decide)
theorem cur_huge {k : Nat} {q : Sta} (hk : 1 ≤ k) (hk8 : k ≤ 8) (h : StOk k q) (bd : StBd q) (hl : q.2.length ≤ 90) : LeT hugeN (cur k q) := fun p hp => by
  have hN : bigN = 1000000000000000000000000000000 := by decide +kernel
  have l1 := cur_le hk hk8 q.2 q.1 bigN h.b h.r bd.r (by omega) bd.b p hp
  rw [hN] at l1
  show p.2 ≤ 1000000000000000000000000000000000000
  omega
theorem txr_of {k : Nat} {t : Tab} (hk8 : k ≤ 60) (cn : Cn k t) (h : LeT hugeN t) : Txr t :=
  ⟨cn.nm, fun p hp => small_huge (by have := cn.ge p hp; omega) (h p hp), Nat.le_trans cn.len hk8⟩
theorem le_huge {t : Tab} (h : LeT bigN t) : LeT hugeN t := fun p hp => by
  have hN : bigN = 1000000000000000000000000000000 := by decide +kernel
  have := h p hp
  show p.2 ≤ 1000000000000000000000000000000000000
  omega
theorem rowT_of {k : Nat} {r : Row} (hk8 : k ≤ 8) (h : RowOk k r) (bd : RowBd r) : RowT r := by
  have hN : bigN = 1000000000000000000000000000000 := by decide +kernel
  cases r with
  | run x n =>
    have bd : n ≤ bigN := bd
    have h2 := h.2
    exact ⟨h.1, small_huge (by omega) (by show n ≤ 1000000000000000000000000000000000000; omega)⟩
  | sum t => exact txr_of (Nat.le_trans hk8 (by decide)) h (le_huge bd)
theorem runsOf_mem {l : List Row} {p : Str × Int} (h : p ∈ runsOf l) : .run p.1 p.2 ∈ l := by
  obtain ⟨r, hr, e⟩ := List.mem_filterMap.mp h
  cases r with
  | run x n =>
    cases e
    exact hr
  | sum t => cases e
theorem stT_of {k : Nat} {q : Sta} (hk : 1 ≤ k) (hk8 : k ≤ 8) (h : StOk k q) (bd : StBd q) (hl : q.2.length ≤ 90) : StT k q := by
  refine ⟨h, txr_of (Nat.le_trans hk8 (by decide)) h.b (le_huge bd.b), fun r hr => rowT_of hk8 (h.r r hr) (bd.r r hr), txr_of (Nat.le_trans hk8 (by decide)) (cur_cn hk h) (cur_huge hk hk8 h bd hl), fun h12 => ?_, hl⟩
  have hN : bigN = 1000000000000000000000000000000 := by decide +kernel
  have nd := tab_nd (runsOf q.2)
  have ge := tab_ge h
  rw [flatP_flat nd ge]
  refine txr_of (k := 12) (by decide) (flat_cn ⟨nd, ge, h12⟩ fun p hp => ?_) (flat_le nd fun p hp => ?_)
  · obtain ⟨r, hr, e⟩ := List.mem_map.mp (tab_nm _ (List.mem_map_of_mem (f := (·.1)) hp))
    rw [← e]
    exact (h.r _ (runsOf_mem hr)).1
  · have := fold_le (N := bigN) (by omega) (runsOf q.2) [] 0 (Int.le_refl _) (fun p hp => by cases hp) (fun r hr => ⟨by have := (h.r _ (runsOf_mem hr)).2; omega, bd.r _ (runsOf_mem hr)⟩) p hp
    have rl : (runsOf q.2).length ≤ 90 := by
      rw [runsOf_eq, List.length_map]
      exact Nat.le_trans (List.length_filter_le ..) hl
    rw [hN] at this
    show p.2 ≤ 1000000000000000000000000000000000000
    omega
/-! ### lengths of the texts of actions -/
/-- bounds of an action -/
def ActLe : Act → Prop
  | .arr _ n => n ≤ bigN
  | .mrg t => LeT bigN t
  | .ins _ _ n => n ≤ bigN
  | .rem _ => True
  | .sta t => LeT bigN t
theorem actLe_bd {ws : List Str} {a : Act} (h : ActBd ws a) : ActLe a := by
  cases a with
  | arr x n => exact h.2
  | mrg t => exact fun p hp => (h p hp).1
  | ins i x n => exact h.2
  | rem i => trivial
  | sta t => exact fun p hp => (h p hp).1
theorem aft_bd {q : Sta} {a : Act} (h : StBd q) (ha : ActLe a) : StBd (aft q a) := by
  cases a with
  | arr x n => exact ⟨h.b, fun r hr => (List.mem_append.mp hr).elim (h.r r) fun z => List.mem_singleton.mp z ▸ ha⟩
  | mrg t => exact ⟨h.b, fun r hr => (List.mem_append.mp hr).elim (h.r r) fun z => List.mem_singleton.mp z ▸ ha⟩
  | ins i x n => exact ⟨h.b, fun r hr => (List.mem_append.mp hr).elim (fun z => (List.mem_append.mp z).elim (fun y => h.r r (List.mem_of_mem_take y)) fun y => List.mem_singleton.mp y ▸ ha) fun z => h.r r (List.mem_of_mem_drop z)⟩
  | rem i => exact ⟨h.b, fun r hr => (List.mem_append.mp hr).elim (fun y => h.r r (List.mem_of_mem_take y)) fun z => h.r r (List.mem_of_mem_drop z)⟩
  | sta t => exact ⟨ha, h.r⟩
theorem aftL_bd : ∀ {l : List Act} {q : Sta}, StBd q → (∀ a ∈ l, ActLe a) → StBd (aftL q l)
  | [], _, h, _ => h
  | a :: l, q, h, ha => aftL_bd (l := l) (aft_bd h (ha a (.head _))) fun b hb => ha b (.tail _ hb)
theorem actT_of {k m : Nat} {a : Act} (hk8 : k ≤ 8) (hm : m ≤ 1000) (h : ActOk k m a) (bd : ActLe a) : ActT a := by
  have hN : bigN = 1000000000000000000000000000000 := by decide +kernel
  have sm : ∀ n : Int, 1 ≤ n → n ≤ bigN → Small n := fun n h1 h2 => small_huge (by omega) (by show n ≤ 1000000000000000000000000000000000000; omega)
  have si : ∀ i : Nat, i ≤ 1000 → Small (i : Int) := fun i h => small_of (b := 10) (by omega) (by omega) (by decide)
  cases a with
  | arr x n => exact sm n h.2 bd
  | mrg t => exact (txr_of (Nat.le_trans hk8 (by decide)) h (le_huge bd)).t9
  | ins i x n => exact ⟨si i (Nat.le_trans h.1 hm), sm n h.2.2 bd⟩
  | rem i => exact si i (by have h : i < m := h; omega)
  | sta t => exact (txr_of (Nat.le_trans hk8 (by decide)) h (le_huge bd)).t9
theorem aT_len {k m : Nat} {a : Act} (hk8 : k ≤ 8) (h : ActOk k m a) (ht : ActT a) : (aT k a).length ≤ 701000 := by
  have w1 : (reprText "arrive").length = 8 := by decide +kernel
  have w2 : (reprText "merge").length = 7 := by decide +kernel
  have w3 : (reprText "insert").length = 8 := by decide +kernel
  have w4 : (reprText "remove").length = 8 := by decide +kernel
  have w5 : (reprText "start").length = 7 := by decide +kernel
  cases a with
  | arr x n =>
    have l1 := tupleText_len_le [reprText "arrive", reprText x, (toString n : String)]
    have l2 := nm_rep h.1
    have l3 := PyProof.Rows.int_text_len_1921 (i := n) ht
    simp only [List.map_cons, List.map_nil, List.sum_cons, List.sum_nil, List.length_cons, List.length_nil] at l1
    show (tupleText [reprText "arrive", reprText x, (toString n : String)]).length ≤ _
    omega
  | mrg t =>
    have l1 := tupleText_len_le [reprText "merge", rS k t]
    have l2 := rS_len hk8 (t := t) ht
    simp only [List.map_cons, List.map_nil, List.sum_cons, List.sum_nil, List.length_cons, List.length_nil] at l1
    show (tupleText [reprText "merge", rS k t]).length ≤ _
    omega
  | ins i x n =>
    have l1 := tupleText_len_le [reprText "insert", (toString (i : Int) : String), reprText x, (toString n : String)]
    have l2 := nm_rep h.2.1
    have l3 := PyProof.Rows.int_text_len_1921 (i := n) ht.2
    have l4 := PyProof.Rows.int_text_len_1921 (i := (i : Int)) ht.1
    simp only [List.map_cons, List.map_nil, List.sum_cons, List.sum_nil, List.length_cons, List.length_nil] at l1
    show (tupleText [reprText "insert", (toString (i : Int) : String), reprText x, (toString n : String)]).length ≤ _
    omega
  | rem i =>
    have l1 := tupleText_len_le [reprText "remove", (toString (i : Int) : String)]
    have l4 := PyProof.Rows.int_text_len_1921 (i := (i : Int)) ht
    simp only [List.map_cons, List.map_nil, List.sum_cons, List.sum_nil, List.length_cons, List.length_nil] at l1
    show (tupleText [reprText "remove", (toString (i : Int) : String)]).length ≤ _
    omega
  | sta t =>
    have l1 := tupleText_len_le [reprText "start", rS k t]
    have l2 := rS_len hk8 (t := t) ht
    simp only [List.map_cons, List.map_nil, List.sum_cons, List.sum_nil, List.length_cons, List.length_nil] at l1
    show (tupleText [reprText "start", rS k t]).length ≤ _
    omega
theorem sum_aT {k : Nat} : ∀ {l : List Act}, (∀ a ∈ l, (aT k a).length ≤ 701000) → ((l.map (aT k)).map (·.length)).sum ≤ 701000 * l.length
  | [], _ => by simp
  | a :: l, h => by
    have a1 := h a (.head _)
    have b := sum_aT (k := k) (l := l) fun q hq => h q (.tail _ hq)
    rw [List.map_cons, List.map_cons, List.sum_cons, List.length_cons]
    omega
theorem hT_len {k : Nat} {l : List Act} (h : ∀ a ∈ l, (aT k a).length ≤ 701000) (hl : l.length ≤ 20) : (hT k l).length ≤ sizeLine := by
  have z : sizeLine = 16777216 := sizeLine_eq
  have l1 := tupleText_len_le (l.map (aT k))
  have l2 := sum_aT (k := k) h
  rw [List.length_map] at l1
  unfold hT
  omega
theorem actsOk_ex {k : Nat} : ∀ {l : List Act} {q : Sta}, ActsOk k q l → q.2.length + l.length ≤ 900 → ∀ a ∈ l, ∃ m, m ≤ 1000 ∧ ActOk k m a
  | [], _, _, _, a, h => nomatch h
  | b :: l, q, h, hl, a, ha => by
    rw [List.length_cons] at hl
    rcases List.mem_cons.mp ha with rfl | z
    · exact ⟨_, by omega, h.1⟩
    · have := aft_len (q := q) (a := b)
      exact actsOk_ex (l := l) (q := aft q b) h.2 (by omega) a z
/-- all that a text of actions wants -/
theorem acts_text {k : Nat} {l : List Act} {q : Sta} (hk8 : k ≤ 8) (h : ActsOk k q l) (bd : ∀ a ∈ l, ActLe a) (hq : q.2.length ≤ 90) (hl : l.length ≤ 20) : (∀ a ∈ l, ActT a) ∧ (hT k l).length ≤ sizeLine := by
  have ex := actsOk_ex h (by omega)
  have t : ∀ a ∈ l, ActT a := fun a ha => let ⟨m, hm, ho⟩ := ex a ha; actT_of hk8 hm ho (bd a ha)
  exact ⟨t, hT_len (fun a ha => let ⟨m, hm, ho⟩ := ex a ha; aT_len hk8 ho (t a ha)) hl⟩
end Kx
set_option Elab.async false
set_option linter.all false
set_option maxRecDepth 100000
set_option maxHeartbeats 4000000
namespace Kx
open PySem PySem.Spec PyProof.Rows L2
theorem bt_new {H H1 H2 : Hp} {p a : Addr} (s : But p H H1) (t : But a H1 H2) (h : H a = none) : But p H H2 := fun b o e n => t b o (s b o e n) (ne_of_none e h)
theorem new_none {H H' : Hp} {p z : Addr} (b : But p H H') (h : PoolAt H' p) (hz : H' z = none) : H z = none := by
  obtain ⟨_, _, _, h, _⟩ := h
  have zp : z ≠ p := fun e => by rw [e, h] at hz; cases hz
  cases e : H z with
  | none => rfl
  | some o => rw [b z o e zp] at hz; cases hz
theorem same_none {H H' : Hp} {z : Addr} (s : Same H H') (hz : H' z = none) : H z = none := by
  cases e : H z with
  | none => rfl
  | some o => rw [s z o e] at hz; cases hz
theorem st_nil {k : Nat} {t : Tab} (cn : Cn k t) : StOk k (t, []) := ⟨cn, fun _ h => nomatch h⟩
/-- the state of the runs collectors -/
def acR (rs : Tab) : List Act := rs.map fun r => .arr r.1 r.2
def colF (t : Tab) (rs : Tab) (n : Int) : Col := ⟨(t, runs rs), (Act.sta t, ([], [])) :: pst (t, []) (acR rs), false, n⟩
def col0 : Col := ⟨([], []), [], false, 0⟩
theorem aftL_arr : ∀ (rs : Tab) (t : Tab) (l : List Row), aftL (t, l) (acR rs) = (t, l ++ runs rs)
  | [], t, l => by
    show (t, l) = (t, l ++ [])
    rw [List.append_nil]
  | r :: rs, t, l => by
    show aftL (t, l ++ [.run r.1 r.2]) (acR rs) = _
    rw [aftL_arr rs t, List.append_assoc]
    rfl
theorem actsOk_arr {k : Nat} : ∀ (rs : Tab) (q : Sta), (∀ r ∈ rs, IsNm r.1 ∧ 1 ≤ r.2) → ActsOk k q (acR rs)
  | [], _, _ => trivial
  | r :: rs, q, h => ⟨h r (.head _), actsOk_arr rs _ fun r hr => h r (.tail _ hr)⟩
theorem runs_mid {t rs : Tab} {i : Nat} {x : Str} : aft (t, runs rs) (.ins i x 1) = (t, runs (mid rs i x)) := by
  show (t, (runs rs).take i ++ [.run x 1] ++ (runs rs).drop i) = _
  unfold runs mid
  rw [List.map_append, List.map_append, List.map_take, List.map_drop]
  rfl
theorem runs_ok {k : Nat} {t rs : Tab} (cn : Cn k t) (h : ∀ r ∈ rs, IsNm r.1 ∧ 1 ≤ r.2) : StOk k (t, runs rs) := ⟨cn, fun r hr => by
  obtain ⟨q, hq, rfl⟩ := List.mem_map.mp hr
  exact h q hq⟩
theorem runs_bd {t rs : Tab} (bd : LeT bigN t) (h : ∀ r ∈ rs, r.2 ≤ bigN) : StBd (t, runs rs) := ⟨bd, fun r hr => by
  obtain ⟨q, hq, rfl⟩ := List.mem_map.mp hr
  exact h q hq⟩
theorem mid_all {rs : Tab} {i : Nat} {x : Str} {F : Str × Int → Prop} (h : ∀ r ∈ rs, F r) (hx : F (x, 1)) : ∀ r ∈ mid rs i x, F r := fun r hr => by
  rcases List.mem_append.mp hr with z | z
  · rcases List.mem_append.mp z with y | y
    · exact h r (List.mem_of_mem_take y)
    · rw [List.mem_singleton.mp y]
      exact hx
  · exact h r (List.mem_of_mem_drop z)
theorem mid_len {rs : Tab} {i : Nat} {x : Str} : (mid rs i x).length = rs.length + 1 := by
  unfold mid
  simp only [List.length_append, List.length_take, List.length_drop, List.length_singleton]
  omega
theorem runs_len (rs : Tab) : (runs rs).length = rs.length := List.length_map _
theorem pst_fst : ∀ {l : List Act} {q : Sta}, (pst q l).map (·.1) = l
  | [], _ => rfl
  | a :: l, q => congrArg (a :: ·) (pst_fst (l := l) (q := aft q a))
/-- the change that is told -/
def LateO (k : Nat) (t rs : Tab) (i : Nat) (x : Str) : Option Str → Prop
  | some e => ¬ (play k t rs).2 < (play k t (mid rs i x)).2 ∧ (∃ q r, hgh (play k t (mid rs i x)).1 (play k t rs).1 = q :: r ∧ q.1 = e) ∧ (∃ r, hgS (play k t (mid rs i x)).1 (play k t rs).1 = e :: r) ∧ flat (add (flat (play k t rs).1) e 1) = flat (play k t (mid rs i x)).1
  | none => (play k t rs).2 < (play k t (mid rs i x)).2 ∧ hgS (play k t (mid rs i x)).1 (play k t rs).1 = [] ∧ (flat (play k t rs).1).length = k ∧ low (flat (play k t rs).1) 1 = flat (play k t (mid rs i x)).1
theorem late_o {k : Nat} {t rs : Tab} {i : Nat} {x : Str} (h : LateR k t rs i x) : ∃ o, LateO k t rs i x o := h.elim (fun ⟨e, h⟩ => ⟨some e, h⟩) fun h => ⟨none, h⟩
section
variable {K : PySem.W.Frag} {H : Hp} {Q : VK} {k i : Nat} {t rs : Tab} {x : Str} {o : Option Str}
theorem give_late (h : LateO k t rs i x o) (q : ∀ u H', Same H H' → ChgV K H' u o → Q u H') :
    ((play k t rs).2 < (play k t (mid rs i x)).2 ∧ ∀ u H', Same H H' → ChgV K H' u none → Q u H') ∨
    (¬ (play k t rs).2 < (play k t (mid rs i x)).2 ∧ ∃ e r, hgh (play k t (mid rs i x)).1 (play k t rs).1 = e :: r ∧ ∀ u H', Same H H' → ChgV K H' u (some e.1) → Q u H') := by
  cases o with
  | none => exact .inl ⟨h.1, q⟩
  | some e =>
    obtain ⟨h1, ⟨p, r, h2, h3⟩, _⟩ := h
    exact .inr ⟨h1, p, r, h2, by rw [h3]; exact q⟩
theorem give_lchg (h : LateO k t rs i x o) (q : ∀ u H', Same H H' → ChgV K H' u o → Q u H') :
    (hgS (play k t (mid rs i x)).1 (play k t rs).1 = [] ∧ ∀ u H', Same H H' → ChgV K H' u none → Q u H') ∨ ∃ e r, hgS (play k t (mid rs i x)).1 (play k t rs).1 = e :: r ∧ ∀ u H', Same H H' → ChgV K H' u (some e) → Q u H' := by
  cases o with
  | none => exact .inl ⟨h.2.1, q⟩
  | some e =>
    obtain ⟨h1, _, ⟨r, h2⟩, _⟩ := h
    exact .inr ⟨e, r, h2, q⟩
theorem give_lchd (h : LateO k t rs i x o) (q : ∀ u H', Same H H' → TupOf K (PrV K) H' u (flat (play k t (mid rs i x)).1) → Q u H') :
    match (generalizing := false) o with
    | some x => ∀ u H', Same H H' → TupOf K (PrV K) H' u (flat (add (flat (play k t rs).1) x 1)) → Q u H'
    | none => (flat (play k t rs).1).length = k ∧ ∀ u H', Same H H' → TupOf K (PrV K) H' u (low (flat (play k t rs).1) 1) → Q u H' := by
  cases o with
  | none =>
    obtain ⟨_, _, h1, h2⟩ := h
    exact ⟨h1, by rw [h2]; exact q⟩
  | some e =>
    obtain ⟨_, _, _, h2⟩ := h
    show ∀ u H', Same H H' → TupOf K (PrV K) H' u (flat (add (flat (play k t rs).1) e 1)) → Q u H'
    rw [h2]
    exact q
end
/-- a told change as data -/
def chgD : Option Str → PyData
  | none => .tuple [.str "less"]
  | some x => .tuple [.str "more", .str x]
theorem dp_chg {K : PySem.W.Frag} {H : Hp} {v : V} {o : Option Str} (h : ChgV K H v o) : Dp K H v (chgD o) := by
  obtain ⟨p, rfl, h⟩ := h
  cases o with
  | none => exact .tup h (.cons (.str _) .nil)
  | some x => exact .tup h (.cons (.str _) (.cons (.str _) .nil))
theorem nm_less : IsNm "less" := nmB_ok (by decide +kernel)
theorem nm_more : IsNm "more" := nmB_ok (by decide +kernel)
theorem sho_chg {o : Option Str} (h : ∀ e, o = some e → IsNm e) : Sho (chgD o) 2000000 10 := by
  cases o with
  | none => exact (sho_tup (sho_cons (sho_str nm_less) (sho_nil (k := 0)))).mono (by decide) (by decide)
  | some x => exact (sho_tup (sho_cons (sho_str nm_more) (sho_cons (sho_str (h x rfl)) (sho_nil (k := 0))))).mono (by decide) (by decide)
theorem late_nm {k : Nat} {t rs : Tab} {i : Nat} {x : Str} {o : Option Str} (hk : 1 ≤ k) (cn : Cn k t) (hr : ∀ r ∈ rs, IsNm r.1 ∧ 1 ≤ r.2) (hx : IsNm x) (h : LateO k t rs i x o) : ∀ e, o = some e → IsNm e := fun e z => by
  subst z
  obtain ⟨_, ⟨q, r, h2, h3⟩, _⟩ := h
  have hm : q ∈ (play k t (mid rs i x)).1 := (List.mem_filter.mp (by
    have : q ∈ hgh (play k t (mid rs i x)).1 (play k t rs).1 := by rw [h2]; exact .head _
    exact this)).1
  have ge : ∀ r ∈ mid rs i x, 1 ≤ r.2 := mid_ge fun r h => (hr r h).2
  have tk := play_tk hk ge cn.tk
  have cc := cur_cn (q := (t, runs (mid rs i x))) hk (runs_ok cn (mid_all hr ⟨hx, Int.le_refl _⟩))
  rw [cur_play hk cn ge] at cc
  rw [← h3]
  exact cc.nm q ((flat_mem tk.nd).mpr hm)
theorem made_C2 {w : World} {K : PySem.W.Frag} {mg : Str → Option Value} (T : Tx w K mg) {H : Hp} {k : Nat} {R : VK} {x dx : Addr} (h1 : 1 ≤ k) (h8 : k ≤ 8) (hx : H x = none) (hdx : H dx = none) (hne : dx ≠ x) (q : ∀ H', Same H H' → ColAt K k H' x col0 → R .non H') :
    spCInit (K := K) [.ref x, .int k] (upd (upd H dx (.own x)) x (.ins (CC K) dx [])) R E0 := by
  have s0 : Same H (upd (upd H dx (.own x)) x (.ins (CC K) dx [])) := Same.trans (sm_new hdx) (sm_new (by rw [upd_ne hne.symm]; exact hx))
  exact ⟨x, dx, k, rfl, upd_same, h1, h8, fun H' b h => q _ (fun y o e => b y o (s0 y o e) (ne_of_none e hx)) h⟩
/-! ### what stands in the heap in the law of runs -/
structure RI (K : PySem.W.Frag) (k : Nat) (p box mate : Addr) (u v x : V) (t rs th : Tab) (H : Hp) (c d : Col) : Prop where
  pl : PoolAt H p
  bx : ColAt K k H box c
  mt : ColAt K k H mate d
  fs : TupOf K (PrV K) H u t
  ps : TupOf K (PrV K) H v rs
  hd : TupOf K (PrV K) H x th
section
variable {w : World} {K : PySem.W.Frag} {mg : Str → Option Value} {k : Nat} {p box mate : Addr} {u v x : V} {t rs th : Tab} {H H' : Hp} {c d c' : Col}
theorem RI.same (h : RI K k p box mate u v x t rs th H c d) (s : Same H H') : RI K k p box mate u v x t rs th H' c d :=
  ⟨pool_same s h.pl, col_same s h.bx, col_same s h.mt, prs_same s h.fs, prs_same s h.ps, prs_same s h.hd⟩
theorem col_pl (h1 : PoolAt H p) (h2 : ColAt K k H box c) : box ≠ p := fun e => by
  obtain ⟨_, _, _, h1, _⟩ := h1
  obtain ⟨_, _, _, _, h2, _⟩ := h2
  rw [e, h1] at h2
  cases h2
theorem RI.pool (T : Tx w K mg) (h : RI K k p box mate u v x t rs th H c d) (b : But p H H') (p' : PoolAt H' p) : RI K k p box mate u v x t rs th H' c d := by
  have tv : Tv (CC K) H H' := pool_tv h.pl b
  have tu := fun {v : V} {l : Tab} => (stb_tup (K := K) (R := PrV K) (stb_pr (C := CC K))).tv (v := v) (x := l) tv
  exact ⟨p', col_tv T tv (fun o e => b _ _ e (col_pl h.pl h.bx)) h.bx, col_tv T tv (fun o e => b _ _ e (col_pl h.pl h.mt)) h.mt, tu h.fs, tu h.ps, tu h.hd⟩
theorem pool_col (b : But box H H') (h : PoolAt H p) (h2 : ColAt K k H box c) : PoolAt H' p := by
  have ne := col_pl h h2
  obtain ⟨x1, x2, x3, h, r⟩ := h
  exact ⟨x1, x2, x3, b _ _ h ne.symm, r⟩
theorem col_tvB (h2 : ColAt K k H box c) (b : But box H H') : Tv (CC K) H H' := by
  obtain ⟨_, _, _, _, h2, _⟩ := h2
  exact ins_tv h2 b
theorem RI.col (T : Tx w K mg) (h : RI K k p box mate u v x t rs th H c d) (b : But box H H') (hc : ColAt K k H' box c') (ne : mate ≠ box) : RI K k p box mate u v x t rs th H' c' d := by
  have tv := col_tvB h.bx b
  have tu := fun {v : V} {l : Tab} => (stb_tup (K := K) (R := PrV K) (stb_pr (C := CC K))).tv (v := v) (x := l) tv
  exact ⟨pool_col b h.pl h.bx, hc, col_tv T tv (fun o e => b _ _ e ne) h.mt, tu h.fs, tu h.ps, tu h.hd⟩
end
end Kx
set_option Elab.async false
set_option linter.all false
set_option maxRecDepth 100000
set_option maxHeartbeats 4000000
namespace Kx
open PySem PySem.Spec PyProof.Rows L2
section
variable {P : Program} {w : World} {K : PySem.W.Frag} {mg : Str → Option Value} {base : Heap}
def spRunsR : Sp := fun vs H Q _ => ∃ (p l : Addr) (k : Nat) (ws : List Str), vs = [.ref p, .int k, .ref l] ∧ PoolAt H p ∧ H l = some (.lst (ws.map V.str)) ∧ Wds ws ∧ 1 ≤ k ∧ k ≤ 8 ∧ ∀ H', But p H H' → PoolAt H' p → Q (.bl true) H'
theorem ok_lrunsR (T : Tx w K mg) : Fg P w K mg base 14 "_law_runs_right" ["_law_pool_here", "_law_width", "_law_words_here"] (spRunsR) := by
  refine T.G__law_runs_right (fun vs H Q E h => ?_) (fun cdv A outer s H vs Q E hG hr h => ?_)
  · obtain ⟨_, _, _, _, rfl, _⟩ := h
    rfl
  obtain ⟨p, l, k, ws, rfl, hp, hl, hws, hk, hk8, fin⟩ := h
  have hu := hu_of hr
  refine ⟨_, pss_cons (ps_par (i := 3) (j := 4) rfl sc__law_runs_right.nd rfl rfl (by decide) rfl rfl (pa_cons (pe_slice sl_tupA (pe_f (ok_lbag T) (hr.mono (by decide)) (pa_cons (pv 0) (pa_cons (pv 2) (pa_cons pe_int pa_nil)))) po_none (po_some (pv 1)))
      (pa_cons (pe_f (ok_lpath T) (hr.mono (by decide)) (pa_cons (pv 0) (pa_cons (pv 2) (pa_cons pe_int (pa_cons pe_int pa_nil))))) pa_nil)) (by kernel_rfl))
    (pss_cons (ps_par (i := 5) (j := 6) rfl sc__law_runs_right.nd rfl rfl (by decide) rfl rfl (pa_cons (pe_mk (mk_C T) (hr.mono (by decide)) (pa_cons (pv 1) pa_nil)) (pa_cons (pe_mk (mk_C T) (hr.mono (by decide)) (pa_cons (pv 1) pa_nil)) pa_nil)) (by kernel_rfl))
    (pss_cons (ps_for PassesOwn.never rfl (pi_list (pe_lst (pa_cons (pv 5) (pa_cons (pv 6) pa_nil)))) (pg_name (i := 7) sc__law_runs_right.nd rfl (Or.inl rfl))
      (pss_cons (ps_expr (pe_m (ok_CRestart T) (hr.mono (by decide)) (pv 7) (pa_cons (pe_mk (mk_S2 T) (hr.mono (by decide)) (pa_cons (pv 1) (pa_cons (pv 3) pa_nil))) pa_nil)))
      (pss_one (ps_expr (pe_m (ok_CDoAll T) (hr.mono (by decide)) (pv 7) (pa_cons (pe_callTy call_tuple_of (by rfl) T.b_tuple bt_tuple (pa_cons (pe_lc (own := [("_law_word", 8), ("_law_often_here", 9)]) (g := gTup K 2 (gCons (gName 8) (gCons (gName 9) gNil))) (tt := tYes) rfl sc__law_runs_right.nd (pi_tup (pv 4)) (blkOk_by (N := n__law_runs_right) (sc := defScope s__law_runs_right) (by decide +kernel))
        (fun _ _ _ _ _ => pg_tup rfl (pgs_cons (pg_name (i := 8) sc__law_runs_right.nd rfl (Or.inl rfl)) (pgs_cons (pg_name (i := 9) sc__law_runs_right.nd rfl (Or.inl rfl)) pgs_nil))) (fun _ _ _ _ _ => pts_nil)
        (fun _ _ _ _ _ => pe_tup (pa_cons pe_str (pa_cons (pv 8) (pa_cons (pv 9) pa_nil))))) pa_nil)) pa_nil))))))
    (pss_cons (ps_set (i := 10) sc__law_runs_right.nd rfl (Or.inl rfl) (pe_f (ok_lflat T) (hr.mono (by decide)) (pa_cons (pe_ix ix_tup (pe_f (ok_lplayed T) (hr.mono (by decide)) (pa_cons (pv 1) (pa_cons (pe_f (ok_lheld T) (hr.mono (by decide)) (pa_cons (pv 3) pa_nil)) (pa_cons (pv 4) pa_nil)))) pe_int (fun _ _ => rfl)) pa_nil)))
    (pss_cons (ps_for PassesOwn.never rfl (pi_range1 (by rfl) T.b_range (pa_cons (pe_op op_add (pe_callB call_len_seq (by rfl) T.b_len bt_len (pa_cons (pv 4) pa_nil)) pe_int) pa_nil)) (pg_name (i := 11) sc__law_runs_right.nd rfl (Or.inl rfl)) 
      (pss_cons (ps_set (i := 8) sc__law_runs_right.nd rfl (Or.inl rfl) (pe_ix ix_list (pv 2) (pe_f (ok_ldraw T) (hr.mono (by decide)) (pa_cons (pv 0) (pa_cons (pe_callB call_len_seq (by rfl) T.b_len bt_len (pa_cons (pv 2) pa_nil)) pa_nil))) (fun _ _ => rfl)))
      (pss_cons (ps_set (i := 12) sc__law_runs_right.nd rfl (Or.inl rfl) (pe_f (ok_late_change T) (hr.mono (by decide)) (pa_cons (pe_m0 (ok_CStart T) (hr.mono (by decide)) (pv 5)) (pa_cons (pe_m0 (ok_CEntries T) (hr.mono (by decide)) (pv 5)) (pa_cons (pv 11) (pa_cons (pv 8) pa_nil))))))
      (pss_cons (ps_set (i := 13) sc__law_runs_right.nd rfl (Or.inl rfl) (pe_f (ok_lchanged T) (hr.mono (by decide)) (pa_cons (pv 1) (pa_cons (pv 10) (pa_cons (pv 12) pa_nil)))))
      (pss_cons (ps_set (i := 14) sc__law_runs_right.nd rfl (Or.inl rfl) (pe_lst (pa_cons (pe_fld (pe_m (ok_CPreview T) (hr.mono (by decide)) (pv 5) (pa_cons (pe_tup (pa_cons (pe_tup (pa_cons pe_str (pa_cons (pv 11) (pa_cons (pv 8) (pa_cons pe_int pa_nil))))) pa_nil)) pa_nil)) rfl)
        (pa_cons (pe_fld (pe_m (ok_CInsert T) (hr.mono (by decide)) (pv 5) (pa_cons (pv 11) (pa_cons (pv 8) pa_nil))) rfl) pa_nil))))
      (pss_cons (ps_if (pw_or (pt_cmp (pc_isN (pv 13))) (pw_or (pt_cmpR op_ne (pe_callB (call_reprS (n := 5) (hr.mono (by decide)) hG) (by rfl) T.b_repr bt_repr (pa_cons (pv 14) pa_nil)) (pe_callB (call_reprS (n := 5) (hr.mono (by decide)) hG) (by rfl) T.b_repr bt_repr (pa_cons (pe_lst (pa_cons (pv 13) (pa_cons (pv 13) pa_nil))) pa_nil)) (nomark _))
        (pw_or1 (pt_cmpR (op_eqO (C := CC K) (Mt1.own (ok_CEq T)) (hr.mono (by decide))) (pv 5) (pv 6) (nomark _))))).pt (pss_one (ps_ret pe_bl)) pss_nil)
      (pss_cons (ps_if (pt_cmpR op_ne (pe_callB (call_reprS (n := 5) (hr.mono (by decide)) hG) (by rfl) T.b_repr bt_repr (pa_cons (pv 12) pa_nil)) (pe_callB (call_reprS (n := 5) (hr.mono (by decide)) hG) (by rfl) T.b_repr bt_repr (pa_cons (pe_f (ok_lchange T) (hr.mono (by decide)) (pa_cons (pv 1) (pa_cons (pv 3) (pa_cons (pv 4) (pa_cons (pv 11) (pa_cons (pv 8) pa_nil)))))) pa_nil)) (nomark _)) (pss_one (ps_ret pe_bl)) pss_nil)
      (pss_one (ps_if (pw_or (pt_cmpR op_ne (pe_callB (call_reprS (n := 5) (hr.mono (by decide)) hG) (by rfl) T.b_repr bt_repr (pa_cons (pe_fld (pe_m0 (ok_CUndo T) (hr.mono (by decide)) (pv 5)) rfl) pa_nil)) (pe_callB (call_reprS (n := 5) (hr.mono (by decide)) hG) (by rfl) T.b_repr bt_repr (pa_cons (pv 10) pa_nil)) (nomark _))
        (pw_or (pt_cmpR (op_neO (C := CC K) (Mt1.own (ok_CEq T)) T.x_C_ne T.x_C_mro (hr.mono (by decide))) (pv 5) (pv 6) (nomark _))
        (pw_or1 (pt_cmpR op_ne (pe_callB (call_reprA (n := 2) (Mt1.own (ok_SRepr T)) (hr.mono (by decide)) hG) (by rfl) T.b_repr bt_repr (pa_cons (pe_m0 (ok_CHistory T) (hr.mono (by decide)) (pv 5)) pa_nil)) (pe_callB (call_reprA (n := 2) (Mt1.own (ok_SRepr T)) (hr.mono (by decide)) hG) (by rfl) T.b_repr bt_repr (pa_cons (pe_m0 (ok_CHistory T) (hr.mono (by decide)) (pv 6)) pa_nil)) (nomark _))))).pt (pss_one (ps_ret pe_bl)) pss_nil)))))))))
    (pss_one (ps_ret pe_bl)))))), ?_⟩
  have hlp := wds_ne hws hp hl
  have wl := hws.len
  have wp : 0 < ws.length := List.length_pos_iff.mpr hws.pos
  refine ⟨_, rfl, _, rfl, p, l, ws, rfl, hp, hl, hws, fun u1 t1 H1 b1 p1 hu1 hB => ⟨_, rfl, k, rfl, ?_⟩⟩
  obtain ⟨cn, bd⟩ := bag_take hB k
  refine sl_upto (C := 0) stb_pr hu1 (i := k) fun u2 H2 s2 hu2 => ?_
  generalize t1.take k = t at cn bd hu2
  have l2 := s2 _ _ (b1 _ _ hl hlp)
  refine ⟨_, rfl, _, rfl, p, l, ws, rfl, pool_same s2 p1, l2, hws, fun u3 rs H3 b3 p3 hu3 hP => ⟨_, _, rfl, ?_⟩⟩
  have hu2' := (stb_tup (K := K) (R := PrV K) (stb_pr (C := CC K))).tv (pool_tv (pool_same s2 p1) b3) hu2
  have b03 : But p H H3 := b1.tr ((sm_bt s2).tr b3)
  have hbd : LeT bigN t := fun q hq => (bd q hq).1
  have rok : ∀ r ∈ rs, IsNm r.1 ∧ 1 ≤ r.2 := fun r hr => ⟨hws.nm _ (hP.2 r hr).1, (hP.2 r hr).2.1⟩
  have rge : ∀ r ∈ rs, 1 ≤ r.2 := fun r hr => (rok r hr).2
  have rbd : ∀ r ∈ rs, r.2 ≤ bigN := fun r hr => (hP.2 r hr).2.2
  have rl := hP.1
  refine ⟨_, rfl, fun box db hbn zb2 zb3 => made_C2 T hk hk8 hbn zb2 zb3 fun H4 s4 hcb => ⟨rfl, ?_⟩⟩
  refine ⟨_, rfl, fun mate dm hmn zm2 zm3 => made_C2 T hk hk8 hmn zm2 zm3 fun H5 s5 hcm => ⟨rfl, _, _, rfl, ?_⟩⟩
  have hcb5 := col_same s5 hcb
  have nbm : mate ≠ box := by
    obtain ⟨_, _, _, _, h, _⟩ := hcb
    exact (ne_of_none h hmn).symm
  have hbn0 := new_none b03 p3 hbn
  have hmn0 := new_none b03 p3 (same_none s4 hmn)
  obtain ⟨a3, xs3, rfl, _⟩ := id hu3
  have tuT := fun {A B : Hp} (tv : Tv (CC K) A B) {v : V} {l : Tab} => (stb_tup (K := K) (R := PrV K) (stb_pr (C := CC K))).tv (v := v) (x := l) tv
  have s35 := s4.trans s5
  have fs5 := prs_same s35 hu2'
  have ps5 := prs_same s35 hu3
  have p5 := pool_same s35 p3
  have b05 : But p H H5 := b03.tr (sm_bt s35)
  refine ⟨_, rfl, _, rfl, by show 2 ≤ sizeLine; decide, fun D hD => ⟨D, rfl, ⟨_, SqL.of upd_same⟩, ?_⟩⟩
  have s6 : Same H5 (upd H5 D (.lst [.ref box, .ref mate])) := sm_new hD
  have hD6 : upd H5 D (.lst [.ref box, .ref mate]) D = some (.lst [.ref box, .ref mate]) := upd_same
  generalize upd H5 D (.lst [.ref box, .ref mate]) = H6 at s6 hD6 ⊢
  have nDb : D ≠ box := by
    obtain ⟨_, _, _, _, h, _⟩ := hcb5
    exact (ne_of_none h hD).symm
  have nDm : D ≠ mate := by
    obtain ⟨_, _, _, _, h, _⟩ := hcm
    exact (ne_of_none h hD).symm
  refine for_it (walk_list (xs := [.ref box, .ref mate])) (fun i σ H' => (∃ x7 x8 x9, σ = [some (.ref p), some (.int k), some (.ref l), some u2, some (.ref a3), some (.ref box), some (.ref mate), x7, x8, x9, none, none, none, none, none]) ∧ But p H H' ∧ PoolAt H' p ∧ H' D = some (.lst [.ref box, .ref mate]) ∧ TupOf K (PrV K) H' u2 t ∧ TupOf K (PrV K) H' (.ref a3) rs ∧
    (∃ c, ColAt K k H' box c ∧ (i ≤ 0 → c = col0) ∧ (0 < i → ∃ n, c = colF t rs n)) ∧ (∃ c, ColAt K k H' mate c ∧ (i ≤ 1 → c = col0) ∧ (1 < i → ∃ n, c = colF t rs n)))
    ⟨⟨none, none, none, rfl⟩, b05.tr (sm_bt s6), pool_same s6 p5, hD6, prs_same s6 fs5, prs_same s6 ps5, ⟨_, col_same s6 hcb5, fun _ => rfl, fun h => absurd h (by decide)⟩, ⟨_, col_same s6 hcm, fun _ => rfl, fun h => absurd h (by decide)⟩⟩
    (fun i σ H' _ q => SqL.of q.2.2.2.1) (fun i x σ H7 H8 hi pp y => ?_) fun σ H7 pp => ?_
  · obtain ⟨⟨x7, x8, x9, rfl⟩, b7, p7, d7, fs7, ps7, ⟨cb, hcb7, cb0, cb1⟩, ⟨cm, hcm7, cm0, cm1⟩⟩ := pp
    obtain ⟨rfl, ex⟩ := y
    have parts : ∃ c, x = .ref c ∧ H c = none ∧ D ≠ c ∧ ColAt K k H8 c col0 ∧ ∀ H9 n, But c H8 H9 → ColAt K k H9 c (colF t rs n) → (∃ c, ColAt K k H9 box c ∧ (i + 1 ≤ 0 → c = col0) ∧ (0 < i + 1 → ∃ n, c = colF t rs n)) ∧ (∃ c, ColAt K k H9 mate c ∧ (i + 1 ≤ 1 → c = col0) ∧ (1 < i + 1 → ∃ n, c = colF t rs n)) := by
      have hi2 : i < 2 := hi
      rcases (show i = 0 ∨ i = 1 by omega) with rfl | rfl
      · cases ex
        rw [cb0 (by decide)] at hcb7
        refine ⟨box, rfl, hbn0, nDb, hcb7, fun H9 n b9 c9 => ⟨⟨_, c9, fun h => absurd h (by decide), fun _ => ⟨n, rfl⟩⟩, ⟨cm, col_tv T (col_tvB hcb7 b9) (fun o e => b9 _ _ e nbm) hcm7, fun _ => cm0 (by decide), fun h => absurd h (by decide)⟩⟩⟩
      · cases ex
        rw [cm0 (by decide)] at hcm7
        refine ⟨mate, rfl, hmn0, nDm, hcm7, fun H9 n b9 c9 => ⟨⟨cb, col_tv T (col_tvB hcm7 b9) (fun o e => b9 _ _ e nbm.symm) hcb7, fun h => absurd h (by decide), fun _ => cb1 (by decide)⟩, ⟨_, c9, fun h => absurd h (by decide), fun _ => ⟨n, rfl⟩⟩⟩⟩
    obtain ⟨c, rfl, hcn, nDc, hc, give⟩ := parts
    obtain ⟨dx, _, _, _, h7, _⟩ := id hc
    refine ⟨_, rfl, c, dx, _, rfl, h7, fl_no rfl, _, rfl, _, rfl, fun x0 dx0 z1 z2 z3 => made_S2 T hk hk8 fs7 cn z1 z2 z3 fun H9 s9 hs => ⟨rfl, k, c, _, t, rfl, hs, col0, col_same s9 hc, rfl, cn, st_nil cn_nil, hk, hk8, by decide, by decide, fun u10 H10 b10 hc10 _ => ?_⟩⟩
    have b810 : But c H8 H10 := (sm_bt s9).tr b10
    obtain ⟨dx9, _, _, _, h10, _⟩ := id hc10
    have ps10 := tuT (col_tvB hc b810) ps7
    obtain ⟨_, xs, e3, ha, pd⟩ := id ps10
    cases e3
    have hl3 := pd_len pd
    refine ⟨_, rfl, c, dx9, _, rfl, h10, fl_no rfl, _, rfl, a3, rfl, ⟨xs, ha⟩, fun D2 hD2 => ?_⟩
    refine lc_M (C := CC K) walk_tup rs (fun r => Act.arr r.1 r.2) (ActV K k) (stb_act T) hl3.symm (by omega) hD2 (fun H' s => st_sm s ha) (fun j r v H11 H12 F1 hj s y f1 => ?_) fun ys H11 s11 hy q => ?_
    · obtain ⟨rfl, ex⟩ := y
      obtain ⟨r', er, b, rfl, hb⟩ := pd_get pd ex
      rw [hj] at er
      cases er
      exact ⟨b, _, rfl, st_sm s hb, rfl, _, _, rfl, _, _, rfl, rfl, rfl, _, rfl, _, rfl, by show 3 ≤ sizeLine; decide, fun z hz => f1 _ _ (sm_new hz) ⟨z, _, rfl, .inl (.inl upd_same), rfl⟩⟩
    · refine ⟨D2, ys, rfl, .inl ⟨SqL.of hy, fun z hz => ?_⟩⟩
      have s12 := sm_new (o := .tup ys) hz
      have s1012 := s11.trans s12
      have al : (acR rs).length = rs.length := List.length_map _
      refine ⟨k, c, .ref z, _, acR rs, rfl, col_same s1012 hc10, rfl, ⟨z, ys, rfl, .inl (.inl upd_same), pd_imp (fun _ _ h => act_same s12 h) q⟩, actsOk_arr rs _ rok, st_nil cn, hk, hk8, by show 0 + (acR rs).length ≤ 90; omega, by show 1 + (acR rs).length ≤ 200; omega, fun u13 H13 n b13 hc13 _ => ?_⟩
      have e13 : aftL (aft ([], []) (.sta t)) (acR rs) = (t, runs rs) := aftL_arr rs t []
      have hc13' : ColAt K k H13 c ⟨aftL (aft ([], []) (.sta t)) (acR rs), (Act.sta t, ([], [])) :: pst (t, []) (acR rs), false, n⟩ := hc13
      rw [e13] at hc13'
      have b813 : But c H8 H13 := b810.tr ((sm_bt s1012).tr b13)
      have tv := col_tvB hc b813
      obtain ⟨g1, g2⟩ := give H13 n b813 hc13'
      exact ⟨⟨_, _, _, rfl⟩, bt_new b7 b813 hcn, pool_col b813 p7 hc, b813 _ _ d7 nDc, tuT tv fs7, tuT tv ps7, g1, g2⟩
  · obtain ⟨⟨x7, x8, x9, rfl⟩, b7, p7, d7, fs7, ps7, ⟨cb, hcb7, _, cb1⟩, ⟨cm, hcm7, _, cm1⟩⟩ := pp
    obtain ⟨nb, rfl⟩ := cb1 (by show 0 < 2; decide)
    obtain ⟨nm, rfl⟩ := cm1 (by show 1 < 2; decide)
    have tkB := play_tk hk rge cn.tk
    have tlB := tkB.len
    have tl := cn.len
    refine ⟨_, rfl, _, rfl, u2, t, rfl, fs7, asc_nd cn.asc, by omega, fun d1 H8 s8 _ h8 => ?_⟩
    refine ⟨_, rfl, k, d1, t, .ref a3, rs, rfl, h8, cn.tk, hk, by omega, prs_same s8 ps7, rge, fun e1 p1 H9 s9 g1 g2 => ⟨p1, _, 0, _, rfl, rfl, .inl (.inl g2), atI_nat (j := 0) rfl, ?_⟩⟩
    refine ⟨e1, _, rfl, g1, by omega, fun hv H10 s10 hhv => ?_⟩
    have s710 := s8.trans (s9.trans s10)
    have R0 : RI K k p box mate u2 (.ref a3) hv t rs (flat (play k t rs).1) H10 (colF t rs nb) (colF t rs nm) := ⟨pool_same s710 p7, col_same s710 hcb7, col_same s710 hcm7, prs_same s710 fs7, prs_same s710 ps7, hhv⟩
    have b10 := b7.tr (sm_bt s710)
    obtain ⟨_, xs, e3, ha, pd⟩ := id R0.ps
    cases e3
    have hl3 := pd_len pd
    refine ⟨_, rfl, a3, xs, rfl, .inr ha, _, _, rfl, rfl, _, rfl, by omega, by omega, ?_⟩
    refine for_it (walk_range (lo := 0) (n := ((xs.length : Int) + 1).toNat)) (fun i σ H' => (∃ x7 x8 x9 x11 x12 x13 x14, σ = [some (.ref p), some (.int k), some (.ref l), some u2, some (.ref a3), some (.ref box), some (.ref mate), x7, x8, x9, some hv, x11, x12, x13, x14]) ∧ But p H H' ∧ ∃ nb nm, RI K k p box mate u2 (.ref a3) hv t rs (flat (play k t rs).1) H' (colF t rs nb) (colF t rs nm))
      ⟨⟨_, _, _, _, _, _, _, rfl⟩, b10, nb, nm, R0⟩ (fun _ _ _ _ _ => trivial) (fun i x σ H11 H12 hi pp y => ?_) fun σ H11 pp => ?_
    · clear fs7 ps7 hcb7 hcm7 d7 p7 s8 s9 s10 s710 R0 b10 ha pd h8 g1 g2 hhv cb1 cm1 hcb5 hcb hcm fs5 ps5 p5 hu2' hu3 hu2 hu1 s35 s4 s5
      obtain ⟨⟨x7, x8, x9, x11, x12, x13, x14, rfl⟩, b11, nb, nm, R⟩ := pp
      obtain ⟨rfl, rfl⟩ := y
      refine (show gName 11 (V.int (0 + (i : Int))) _ _ _ from ?_)
      rw [Int.zero_add]
      have hi' : i ≤ rs.length := by omega
      have l11 := b11 _ _ hl hlp
      refine ⟨_, rfl, _, rfl, _, rfl, l, _, rfl, .inl (SqL.of l11), p, _, rfl, R.pl, by rw [List.length_map]; omega, by rw [List.length_map]; omega, fun r H13 b13 p13 z0 z1 => ?_⟩
      rw [List.length_map] at z1
      obtain ⟨wd, hw, ea⟩ := wds_at z0 z1
      have R13 := R.pool T b13 p13
      have b013 := b11.tr b13
      have l13 := b13 _ _ l11 hlp
      have hnm := hws.nm wd hw
      refine ⟨l, _, r, .str wd, rfl, rfl, SqL.of l13, ea, ?_⟩
      obtain ⟨o, ho⟩ := late_o (late_r (i := i) (x := wd) hk cn.tk rge)
      have hone := late_nm hk cn rok hnm ho
      have od : Od rs := ⟨fun q hq => (rok q hq).1, rge, by omega, ws, by omega, fun q hq => (hP.2 q hq).1⟩
      have sok := runs_ok cn rok
      have aok : ActOk k (runs rs).length (.ins i wd 1) := ⟨by rw [runs_len]; exact hi', hnm, by decide⟩
      have mok := mid_all (i := i) rok (F := fun r => IsNm r.1 ∧ 1 ≤ r.2) (show IsNm wd ∧ (1 : Int) ≤ 1 from ⟨hnm, by decide⟩)
      have mbd := mid_all (i := i) (x := wd) rbd (F := fun r => r.2 ≤ bigN) (show (1 : Int) ≤ bigN by decide +kernel)
      have ml := mid_len (rs := rs) (i := i) (x := wd)
      have rl1 := runs_len rs
      have rl2 := runs_len (mid rs i wd)
      have cF := cur_play hk cn (mid_ge (i := i) (x := wd) rge)
      have cB := cur_play hk cn rge
      have cnA : Cn k (flat (play k t (mid rs i wd)).1) := cF ▸ cur_cn hk (runs_ok cn mok)
      have cnB : Cn k (flat (play k t rs).1) := cB ▸ cur_cn hk sok
      have txA : Txr (flat (play k t (mid rs i wd)).1) := txr_of (Nat.le_trans hk8 (by decide)) cnA (cF ▸ cur_huge hk hk8 (runs_ok cn mok) (runs_bd hbd mbd) (by show (runs (mid rs i wd)).length ≤ 90; omega))
      have txB : Txr (flat (play k t rs).1) := txr_of (Nat.le_trans hk8 (by decide)) cnB (cB ▸ cur_huge hk hk8 sok (runs_bd hbd rbd) (by show (runs rs).length ≤ 90; omega))
      have al : (acR rs).length = rs.length := List.length_map _
      have pl : (pst (t, []) (acR rs)).length = (acR rs).length := pst_len
      obtain ⟨dx, _, _, _, h13, _⟩ := id R13.bx
      refine ⟨_, rfl, box, dx, _, rfl, h13, fl_no rfl, k, box, _, rfl, R13.bx, fun v1 hv1 => ⟨_, rfl, box, dx, _, rfl, h13, fl_no rfl, k, box, _, rfl, R13.bx, fun v2 hv2 => ?_⟩⟩
      refine ⟨_, rfl, _, rfl, v1, v2, k, i, wd, t, rs, rfl, hv1, cn, hk, hk8, runs_tup hv2, od, by omega, hi', hnm, give_late ho fun v3 H14 s14 hv3 => ?_⟩
      have R14 := R13.same s14
      refine ⟨_, rfl, _, rfl, _, rfl, hv, v3, k, _, o, rfl, R14.hd, cnB, hk8, hv3, give_lchd ho fun v4 H15 s15 hv4 => ?_⟩
      have R15 := R14.same s15
      obtain ⟨d15, _, _, _, h15, _⟩ := id R15.bx
      refine ⟨_, rfl, box, d15, _, rfl, h15, fl_no rfl, _, rfl, _, rfl, by show 4 ≤ sizeLine; decide, fun q1 hq1 => ⟨by show 1 ≤ sizeLine; decide, fun q2 hq2 => ?_⟩⟩
      have s16 := sm_new (o := .tup [.str "insert", .int (i : Int), .str wd, .int 1]) hq1
      have g16 : upd H15 q1 (.tup [.str "insert", .int (i : Int), .str wd, .int 1]) q1 = _ := upd_same
      generalize upd H15 q1 (.tup [.str "insert", .int (i : Int), .str wd, .int 1]) = H16 at s16 g16 hq2 ⊢
      have acV : ActV K k H16 (.ref q1) (.ins i wd 1) := ⟨q1, _, rfl, .inl (.inl g16), rfl⟩
      have s17 := sm_new (o := .tup [.ref q1]) hq2
      have g17 : upd H16 q2 (.tup [.ref q1]) q2 = _ := upd_same
      generalize upd H16 q2 (.tup [.ref q1]) = H17 at s17 g17 ⊢
      have R17 := R15.same (s16.trans s17)
      refine ⟨k, box, .ref q2, _, [.ins i wd 1], rfl, R17.bx, ⟨q2, _, rfl, .inl (.inl g17), .cons (act_same s17 acV) .nil⟩, ⟨aok, trivial⟩, sok, hk, hk8, by show (runs rs).length + 1 ≤ 90; omega, fun v5 H18 s18 hv5 => ?_⟩
      have R18 := R17.same s18
      have hv4' := prs_same (s16.trans (s17.trans s18)) hv4
      obtain ⟨a5, d5, c5, rfl, h5, hc5⟩ := hv5
      refine ⟨a5, _, d5, _, _, rfl, h5, T.c_Summary, T.n_Summary_counts, lk_cc, ?_⟩
      obtain ⟨d18, _, _, _, h18, _⟩ := id R18.bx
      refine ⟨_, rfl, box, d18, _, rfl, h18, fl_no rfl, _, rfl, _, rfl, k, box, i, wd, 1, rfl, _, R18.bx, rfl, aok, sok, hk, hk8, by show (runs rs).length ≤ 90; omega, by show (pst (t, []) (acR rs)).length + 1 ≤ 200; omega, fun v6 H19 b19 hc19 hv6 => ?_⟩
      have tv19 := col_tvB R18.bx b19
      have R19 := R18.col T b19 hc19 nbm
      have b019 := bt_new (b013.tr (sm_bt (s14.trans (s15.trans (s16.trans (s17.trans s18)))))) b19 hbn0
      obtain ⟨a6, d6, c6, rfl, h6, hc6⟩ := hv6
      have eq5 : cur k (aftL (t, runs rs) [.ins i wd 1]) = flat (play k t (mid rs i wd)).1 := by
        show cur k (aft (t, runs rs) (.ins i wd 1)) = _
        rw [runs_mid, cF]
      have eq6 : cur k (aft (t, runs rs) (.ins i wd 1)) = flat (play k t (mid rs i wd)).1 := by rw [runs_mid, cF]
      have hc5' : TupOf K (PrV K) H18 c5 (cur k (aftL (t, runs rs) [.ins i wd 1])) := hc5
      have hc6' : TupOf K (PrV K) H19 c6 (cur k (aft (t, runs rs) (.ins i wd 1))) := hc6
      rw [eq5] at hc5'
      rw [eq6] at hc6'
      have hc5' := tuT tv19 hc5'
      have hv4' := tuT tv19 hv4'
      refine ⟨a6, _, d6, _, _, rfl, h6, T.c_Summary, T.n_Summary_counts, lk_cc, by show 2 ≤ sizeLine; decide, fun q3 hq3 => ?_⟩
      have s20 := sm_new (o := .lst [c5, c6]) hq3
      have g20 : upd H19 q3 (.lst [c5, c6]) q3 = _ := upd_same
      generalize upd H19 q3 (.lst [c5, c6]) = H20 at s20 g20 ⊢
      have R20 := R19.same s20
      obtain ⟨a4, xs4, rfl, _⟩ := id hv4'
      refine ⟨_, rfl, false, rfl, iteF ?_⟩
      have sA := sho_tab txA
      have SA : Sho (.list [tabD (flat (play k t (mid rs i wd)).1), tabD (flat (play k t (mid rs i wd)).1)]) 2000000 10 := (sho_lst (sho_cons sA (sho_cons sA (sho_nil (k := 2))))).mono (by decide) (by decide)
      have sf := fun {x : V} => (by simp : (!decide (x = x)) = false)
      have dA5 := dp_tab (prs_same s20 hc5')
      have dA6 := dp_tab (prs_same s20 hc6')
      have dA4 := dp_tab (prs_same s20 hv4')
      refine ⟨_, rfl, q3, _, rfl, .lst (SqL.of g20) (.cons dA5 (.cons dA6 .nil)), SA, _, rfl, _, rfl, by show 2 ≤ sizeLine; decide, fun q4 hq4 => ?_⟩
      have s21 := sm_new (o := .lst [.ref a4, .ref a4]) hq4
      have g21 : upd H20 q4 (.lst [.ref a4, .ref a4]) q4 = _ := upd_same
      generalize upd H20 q4 (.lst [.ref a4, .ref a4]) = H21 at s21 g21 ⊢
      have R21 := R20.same s21
      have dA7 := dp_tab (prs_same (s20.trans s21) hv4')
      refine ⟨q4, _, rfl, .lst (SqL.of g21) (.cons dA7 (.cons dA7 .nil)), SA, rfl, _, congrArg V.bl sf, iteF ?_⟩
      obtain ⟨db, _, _, _, hb21, _⟩ := id R21.bx
      obtain ⟨dm, _, _, _, hm21, _⟩ := id R21.mt
      refine ⟨_, rfl, _, rfl, box, mate, db, dm, _, _, rfl, rfl, hb21, hm21, k, box, mate, _, _, rfl, R21.bx, R21.mt, rfl, .inr ⟨mid rs i wd, rs, congrArg Prod.snd runs_mid, rfl, fun q hq => (mok q hq).1, fun q hq => (rok q hq).1, by omega, fun H22 s22 => ⟨false, rfl, false, rfl, iteF ?_⟩⟩⟩
      have R22 := R21.same s22
      have s1922 := s20.trans (s21.trans s22)
      have hv3' : ChgV K H22 v3 o := by
        obtain ⟨pc, e, hch⟩ := hv3
        exact ⟨pc, e, st_tv ((sm_tv (s15.trans (s16.trans (s17.trans s18)))).tr (tv19.tr (sm_tv s1922))) hch⟩
      obtain ⟨pc, rfl, _⟩ := id hv3'
      refine ⟨_, rfl, pc, chgD o, rfl, dp_chg hv3', sho_chg hone, _, rfl, _, rfl, _, rfl, _, rfl, _, rfl, u2, .ref a3, k, i, wd, t, rs, rfl, R22.fs, R22.ps, cn, hk, hk8, rge, by omega, hi', give_lchg ho fun v7 H23 s23 hv7 => ?_⟩
      obtain ⟨pd7, rfl, _⟩ := id hv7
      refine ⟨pd7, chgD o, rfl, dp_chg hv7, sho_chg hone, rfl, _, congrArg V.bl sf, iteF ?_⟩
      have R23 := R22.same s23
      obtain ⟨d23, _, _, _, h23, _⟩ := id R23.bx
      refine ⟨_, rfl, box, d23, _, rfl, h23, fl_no rfl, k, box, _, (colF t rs nb).past, .ins i wd 1, (t, runs rs), rfl, R23.bx, rfl, rfl, by show (pst (t, []) (acR rs)).length + 1 ≤ 1000; omega, sok, hk, hk8, fun v8 H24 b24 hc24 hv8 => ?_⟩
      have hc24' : ColAt K k H24 box (colF t rs nb) := hc24
      have R24 := R23.col T b24 hc24' nbm
      have b024 := bt_new (b019.tr (sm_bt (s1922.trans s23))) b24 hbn0
      obtain ⟨a8, d8, c8, rfl, h8, hc8⟩ := hv8
      have hc8' : TupOf K (PrV K) H24 c8 (cur k (t, runs rs)) := hc8
      rw [cB] at hc8'
      obtain ⟨a9, _, rfl, _⟩ := id hc8'
      obtain ⟨ah, _, rfl, _⟩ := id R24.hd
      refine ⟨a8, _, d8, _, _, rfl, h8, T.c_Summary, T.n_Summary_counts, lk_cc, a9, _, rfl, dp_tab hc8', (sho_tab txB).mono (by decide) (by decide), _, rfl, ah, _, rfl, dp_tab R24.hd, (sho_tab txB).mono (by decide) (by decide), rfl, _, congrArg V.bl sf, iteF ?_⟩
      obtain ⟨db, _, _, _, hb24, _⟩ := id R24.bx
      obtain ⟨dm, _, _, _, hm24, _⟩ := id R24.mt
      refine ⟨_, rfl, _, rfl, box, mate, db, dm, _, _, rfl, rfl, hb24, hm24, k, box, mate, _, _, rfl, R24.bx, R24.mt, rfl, .inl ⟨rfl, fun H25 s25 => ⟨true, rfl, false, rfl, iteF ?_⟩⟩⟩
      have R25 := R24.same s25
      obtain ⟨d25, _, _, _, h25, _⟩ := id R25.bx
      have hist : ∀ n, (colF t rs n).past.map (·.1) = .sta t :: acR rs := fun n => congrArg (Act.sta t :: ·) pst_fst
      have htx := acts_text (k := k) (q := ([], [])) (l := .sta t :: acR rs) hk8 ⟨cn, actsOk_arr rs _ rok⟩ (fun a ha => by
        rcases List.mem_cons.mp ha with rfl | z
        · exact hbd
        · obtain ⟨r, hr, rfl⟩ := List.mem_map.mp z
          exact rbd r hr) (by decide) (by rw [List.length_cons]; omega)
      refine ⟨_, rfl, box, d25, _, rfl, h25, fl_no rfl, k, box, _, rfl, R25.bx, by show (pst (t, []) (acR rs)).length + 1 ≤ 1000; omega, fun v9 H26 s26 hv9 => ?_⟩
      rw [hist] at hv9
      refine ⟨v9, k, _, rfl, hv9, hk8, htx.1, htx.2, fun H27 s27 => ?_⟩
      have R27 := R25.same (s26.trans s27)
      obtain ⟨d27, _, _, _, h27, _⟩ := id R27.mt
      refine ⟨_, rfl, mate, d27, _, rfl, h27, fl_no rfl, k, mate, _, rfl, R27.mt, by show (pst (t, []) (acR rs)).length + 1 ≤ 1000; omega, fun v10 H28 s28 hv10 => ?_⟩
      rw [hist] at hv10
      refine ⟨v10, k, _, rfl, hv10, hk8, htx.1, htx.2, fun H29 s29 => ⟨rfl, _, congrArg V.bl sf, iteF ?_⟩⟩
      have s2529 := s26.trans (s27.trans (s28.trans s29))
      exact ⟨⟨_, _, _, _, _, _, _, rfl⟩, b024.tr (sm_bt (s25.trans s2529)), nb, nm, R25.same s2529⟩
    · obtain ⟨_, b11, _, _, R⟩ := pp
      exact fin _ b11 R.pl
end
end Kx
set_option Elab.async false
set_option linter.all false
set_option maxRecDepth 100000
set_option maxHeartbeats 4000000
namespace Kx
open PySem PySem.Spec PyProof.Rows L2
theorem acts_mu {C : Addr} {K : PySem.W.Frag} {A : Addr → Prop} {H : Hp} {xs : List V} {l : List Act} (p : Paired (LActV K A H) xs l) : ¬ Mu C (.lst xs) := fun m => by
  unfold Mu at m
  split at m
  · rename_i q
    cases q
    cases p with
    | cons h _ =>
      obtain ⟨a, _, e, _⟩ := h
      cases e
  · rename_i q
    cases q
  · exact m
/-- what stands in the heap in the law of merges -/
structure MI (K : PySem.W.Frag) (k : Nat) (p box : Addr) (sv : V) (q : Sta) (D5 : Addr) (xs : List V) (acts : List Act) (H : Hp) (c : Col) : Prop where
  pl : PoolAt H p
  bx : ColAt K k H box c
  st : LStV K Nil H sv q
  ls : H D5 = some (.lst xs)
  pa : Paired (LActV K Nil H) xs acts
section
variable {w : World} {K : PySem.W.Frag} {mg : Str → Option Value} {k : Nat} {p box : Addr} {sv : V} {q : Sta} {D5 : Addr} {xs : List V} {acts : List Act} {H H' : Hp} {c c' : Col} {C : Addr}
theorem MI.mv (h : MI K k p box sv q D5 xs acts H c) (s : Sv C H H') (hp : PoolAt H' p) (hb : ColAt K k H' box c') : MI K k p box sv q D5 xs acts H' c' :=
  ⟨hp, hb, lst_sv' s h.st, s _ _ h.ls (acts_mu h.pa), pd_imp (fun _ _ => lact_sv s) h.pa⟩
theorem MI.same (h : MI K k p box sv q D5 xs acts H c) (s : Same H H') : MI K k p box sv q D5 xs acts H' c := h.mv (C := 0) (sm_sv s) (pool_same s h.pl) (col_same s h.bx)
theorem MI.pool (T : Tx w K mg) (h : MI K k p box sv q D5 xs acts H c) (b : But p H H') (p' : PoolAt H' p) : MI K k p box sv q D5 xs acts H' c :=
  h.mv (C := CC K) (pool_sv h.pl b) p' (col_tv T (pool_tv h.pl b) (fun o e => b _ _ e (col_pl h.pl h.bx)) h.bx)
theorem col_svB (h2 : ColAt K k H box c) (b : But box H H') : Sv (CC K) H H' := by
  obtain ⟨_, _, _, _, h2, _⟩ := h2
  exact bt_sv b h2 rfl
theorem MI.col (h : MI K k p box sv q D5 xs acts H c) (b : But box H H') (hc : ColAt K k H' box c') : MI K k p box sv q D5 xs acts H' c' :=
  h.mv (C := CC K) (col_svB h.bx b) (pool_col b h.pl h.bx) hc
theorem MI.other (T : Tx w K mg) {o : Addr} {d : Col} (h : MI K k p box sv q D5 xs acts H c) (ho : ColAt K k H o d) (b : But o H H') (ne : box ≠ o) : MI K k p box sv q D5 xs acts H' c :=
  h.mv (C := CC K) (col_svB ho b) (pool_col b h.pl ho) (col_tv T (col_tvB ho b) (fun x e => b _ _ e ne) h.bx)
end
def colM (q : Sta) (acts : List Act) (n : Int) : Col := ⟨q, pst ([], []) acts, false, n⟩
theorem actOk_tab {k m : Nat} {a : Act} (h : ActOk k m a) : Cn k a.tab := by
  cases a with
  | mrg t => exact h
  | sta t => exact h
  | arr x n => exact cn_nil
  | ins i x n => exact cn_nil
  | rem i => exact cn_nil
section
variable {P : Program} {w : World} {K : PySem.W.Frag} {mg : Str → Option Value} {base : Heap}
theorem ok_lmergesR (T : Tx w K mg) : Fg P w K mg base 14 "_law_merges_right" ["_law_pool_here", "_law_width", "_law_words_here"] (spRunsR) := by
  refine T.G__law_merges_right (fun vs H Q E h => ?_) (fun cdv A outer s H vs Q E hG hr h => ?_)
  · obtain ⟨_, _, _, _, rfl, _⟩ := h
    rfl
  obtain ⟨p, l, k, ws, rfl, hp, hl, hws, hk, hk8, fin⟩ := h
  have hu := hu_of hr
  refine ⟨_, pss_cons (ps_asg (pe_f (ok_ldrawn T) (hr.mono (by decide)) (pa_cons (pv 0) (pa_cons (pv 1) (pa_cons (pv 2) (pa_cons (pe_tup (pa_cons (pe_tup pa_nil) (pa_cons (pe_lst pa_nil) pa_nil))) (pa_cons pe_int pa_nil)))))) (pg_unl rfl (pgs_cons (pg_name (i := 3) sc__law_merges_right.nd rfl (Or.inl rfl)) (pgs_cons (pg_name (i := 4) sc__law_merges_right.nd rfl (Or.inl rfl)) pgs_nil))))
    (pss_cons (ps_par (i := 5) (j := 6) rfl sc__law_merges_right.nd rfl rfl (by decide) rfl rfl (pa_cons (pe_mk (mk_C T) (hr.mono (by decide)) (pa_cons (pv 1) pa_nil)) (pa_cons (pe_ix ix_list (pv 4) (pe_un un_neg pe_int) (fun _ _ => rfl)) pa_nil)) (by kernel_rfl))
    (pss_cons (ps_expr (pe_m (ok_CDoAll T) (hr.mono (by decide)) (pv 5) (pa_cons (pe_f (ok_ldeeds T) (hr.mono (by decide)) (pa_cons (pv 1) (pa_cons (pv 3) pa_nil))) pa_nil)))
    (pss_cons (ps_for PassesOwn.never rfl (pi_range1 (by rfl) T.b_range (pa_cons (pe_op op_add (pe_callB call_len_seq (by rfl) T.b_len bt_len (pa_cons (pe_ix ix_tup (pv 6) pe_int (fun _ _ => rfl)) pa_nil)) pe_int) pa_nil)) (pg_name (i := 7) sc__law_merges_right.nd rfl (Or.inl rfl))
      (pss_cons (ps_set (i := 8) sc__law_merges_right.nd rfl (Or.inl rfl) (pe_ix ix_list (pv 2) (pe_f (ok_ldraw T) (hr.mono (by decide)) (pa_cons (pv 0) (pa_cons (pe_callB call_len_seq (by rfl) T.b_len bt_len (pa_cons (pv 2) pa_nil)) pa_nil))) (fun _ _ => rfl)))
      (pss_cons (ps_set (i := 9) sc__law_merges_right.nd rfl (Or.inl rfl) (pe_f (ok_ldone T) (hr.mono (by decide)) (pa_cons (pv 6) (pa_cons (pe_tup (pa_cons pe_str (pa_cons (pv 7) (pa_cons (pv 8) (pa_cons pe_int pa_nil))))) pa_nil))))
      (pss_cons (ps_set (i := 10) sc__law_merges_right.nd rfl (Or.inl rfl) (pe_mk (mk_C T) (hr.mono (by decide)) (pa_cons (pv 1) pa_nil)))
      (pss_cons (ps_expr (pe_m (ok_CRestart T) (hr.mono (by decide)) (pv 10) (pa_cons (pe_m0 (ok_CStart T) (hr.mono (by decide)) (pv 5)) pa_nil)))
      (pss_cons (ps_set (i := 11) sc__law_merges_right.nd rfl (Or.inl rfl) (pe_m (ok_CInsert T) (hr.mono (by decide)) (pv 5) (pa_cons (pv 7) (pa_cons (pv 8) pa_nil))))
      (pss_cons (ps_for PassesOwn.never rfl (pi_tup (pe_m0 (ok_CEntries T) (hr.mono (by decide)) (pv 5))) (pg_name (i := 12) sc__law_merges_right.nd rfl (Or.inl rfl))
        (pss_one (ps_if (pt_val (pe_f (ok_is_summary T) (hr.mono (by decide)) (pa_cons (pv 12) pa_nil)))
          (pss_one (ps_expr (pe_m (ok_CMerge T) (hr.mono (by decide)) (pv 10) (pa_cons (pv 12) pa_nil))))
          (pss_one (ps_expr (pe_m (ok_CArrive T) (hr.mono (by decide)) (pv 10) (pa_cons (pe_ix ix_tup (pv 12) pe_int (fun _ _ => rfl)) (pa_cons (pe_ix ix_tup (pv 12) pe_int (fun _ _ => rfl)) pa_nil))))))))
      (pss_cons (ps_if (pw_or (pt_cmpR op_ne (pe_callB (call_reprS (n := 5) (hr.mono (by decide)) hG) (by rfl) T.b_repr bt_repr (pa_cons (pe_fld (pv 11) rfl) pa_nil)) (pe_callB (call_reprS (n := 5) (hr.mono (by decide)) hG) (by rfl) T.b_repr bt_repr (pa_cons (pe_f (ok_lnow T) (hr.mono (by decide)) (pa_cons (pv 1) (pa_cons (pv 9) pa_nil))) pa_nil)) (nomark _))
        (pw_or (pt_cmpR (op_neO (C := CS K) (Mt1.own (ok_SEq T)) T.x_S_ne T.x_S_mro (hr.mono (by decide))) (pv 11) (pe_m0 (ok_CCurrent T) (hr.mono (by decide)) (pv 10)) (nomark _))
        (pw_or1 (pt_cmpR (op_neO (C := CC K) (Mt1.own (ok_CEq T)) T.x_C_ne T.x_C_mro (hr.mono (by decide))) (pv 5) (pv 10) (nomark _))))).pt (pss_one (ps_ret pe_bl)) pss_nil)
      (pss_cons (ps_expr (pe_m0 (ok_CUndo T) (hr.mono (by decide)) (pv 5)))
      (pss_one (ps_if (pt_not (pt_val (pe_g (ok_ltoldR T) hG (hr.mono (by decide)) (pa_cons (pv 5) (pa_cons (pv 1) (pa_cons (pv 6) pa_nil)))))) (pss_one (ps_ret pe_bl)) pss_nil)))))))))))
    (pss_one (ps_ret (pe_cmpR op_eq (pe_callB (call_reprA (n := 2) (Mt1.own (ok_SRepr T)) (hr.mono (by decide)) hG) (by rfl) T.b_repr bt_repr (pa_cons (pe_m0 (ok_CHistory T) (hr.mono (by decide)) (pv 5)) pa_nil)) (pe_callB (call_reprA (n := 2) (Mt1.own (ok_SRepr T)) (hr.mono (by decide)) hG) (by rfl) T.b_repr bt_repr (pa_cons (pe_f (ok_ldeeds T) (hr.mono (by decide)) (pa_cons (pv 1) (pa_cons (pv 3) pa_nil))) pa_nil)) (nomark _))))))), ?_⟩
  have hlp := wds_ne hws hp hl
  have wl := hws.len
  have wp : 0 < ws.length := List.length_pos_iff.mpr hws.pos
  refine ⟨_, rfl, _, rfl, _, rfl, Nat.zero_le _, fun z1 hz1 => ⟨Nat.zero_le _, fun z2 hz2 => ⟨by show 2 ≤ sizeLine; decide, fun z3 hz3 => ?_⟩⟩⟩
  have s1 := sm_new (o := .tup []) hz1
  have g1 : upd H z1 (.tup []) z1 = _ := upd_same
  generalize upd H z1 (.tup []) = Ha at s1 g1 hz2 hz3 ⊢
  have s2 := sm_new (o := .lst []) hz2
  have g2 : upd Ha z2 (.lst []) z2 = _ := upd_same
  generalize upd Ha z2 (.lst []) = Hb at s2 g2 hz3 ⊢
  have s3 := sm_new (o := .tup [.ref z1, .ref z2]) hz3
  have g3 : upd Hb z3 (.tup [.ref z1, .ref z2]) z3 = _ := upd_same
  generalize upd Hb z3 (.tup [.ref z1, .ref z2]) = Hc at s3 g3 ⊢
  have s13 := s1.trans (s2.trans s3)
  have hst0 : LStV K Nil Hc (.ref z3) ([], []) := ⟨z3, .ref z1, z2, [], rfl, .inl (.inl g3), ⟨z1, [], rfl, .inl (.inl (s3 _ _ (s2 _ _ g1))), .nil⟩, s3 _ _ g2, .nil, fun h => h⟩
  refine ⟨p, l, k, .ref z3, ws, ([], []), rfl, pool_same s13 hp, s13 _ _ hl, hws, hst0, by decide, fun r D5 D6 xs ys last acts H1 b1 p1 hr0 h5 h6 pa st al aok abd => ?_⟩
  have b01 : But p H H1 := (sm_bt s13).tr b1
  clear hst0 s13 s3 s2 s1 g1 g2 g3 hz1 hz2 hz3
  have okq := aftL_ok (st_nil cn_nil) aok
  have bdq := aftL_bd (q := ([], [])) ⟨(fun p hp => nomatch hp), fun r hr => nomatch hr⟩ fun a ha => actLe_bd (abd a ha)
  have lq := aftL_len (l := acts) (q := ([], []))
  have lq : (aftL ([], []) acts).2.length ≤ 0 + acts.length := lq
  have plen : (pst ([], []) acts).length = acts.length := pst_len
  have htx := acts_text (k := k) (q := ([], [])) hk8 aok (fun a ha => actLe_bd (abd a ha)) (by decide) (by omega)
  have cns : ∀ a ∈ acts, Cn k a.tab := fun a ha => let ⟨m, _, ho⟩ := actsOk_ex aok (by show 0 + acts.length ≤ 900; omega) a ha; actOk_tab ho
  obtain ⟨ps, bb, lr, rxs, rfl, _⟩ := id st
  refine ⟨r, _, rfl, SqL.of hr0, rfl, _, _, rfl, _, _, rfl, rfl, ?_⟩
  refine ⟨_, rfl, fun box db hbn zb2 zb3 => made_C2 T hk hk8 hbn zb2 zb3 fun H2 s2 hcb => ⟨rfl, ?_⟩⟩
  refine ⟨_, rfl, 1, rfl, D6, _, -1, .ref ps, rfl, rfl, SqL.of (s2 _ _ h6), atI_last ys (.ref ps), _, _, rfl, ?_⟩
  have hbn0 := new_none b01 p1 hbn
  have M2 : MI K k p box (.ref ps) (aftL ([], []) acts) D5 xs acts H2 col0 := ⟨pool_same s2 p1, hcb, lst_sv' (C := 0) (sm_sv s2) st, s2 _ _ h5, pd_imp (fun _ _ => lact_sv (C := 0) (sm_sv s2)) pa⟩
  have b02 := b01.tr (sm_bt s2)
  clear st pa h5 h6 hr0 s2 hcb p1
  obtain ⟨db2, _, _, _, hb2, _⟩ := id M2.bx
  refine ⟨_, rfl, box, db2, _, rfl, hb2, fl_no rfl, _, rfl, _, rfl, k, D5, xs, acts, rfl, M2.ls, M2.pa, cns, hk, hk8, by omega, fun u3 H3 s3 hu3 => ?_⟩
  have M3 := M2.same s3
  refine ⟨k, box, u3, col0, acts, rfl, M3.bx, rfl, hu3, aok, st_nil cn_nil, hk, hk8, by show 0 + acts.length ≤ 90; omega, by show 0 + acts.length ≤ 200; omega, fun u4 H4 n4 b4 hc4 _ => ?_⟩
  have hc4' : ColAt K k H4 box (colM (aftL ([], []) acts) acts n4) := hc4
  have M4 := M3.col b4 hc4'
  have b04 := bt_new (b02.tr (sm_bt s3)) b4 hbn0
  clear M2 M3 hc4 hc4' b4 s3 hu3 b02 b01 b1 hb2
  obtain ⟨_, bb4, lr4, rxs4, ee, hps, hb, hlr, rpd, _⟩ := id M4.st
  cases ee
  have rl := pd_len rpd
  refine ⟨_, rfl, ps, _, 1, _, rfl, rfl, hps, atI_nat (j := 1) rfl, lr4, rxs4, rfl, .inl (SqL.of hlr), _, _, rfl, rfl, _, rfl, by omega, by omega, ?_⟩
  clear hps hb hlr rpd
  generalize eq0 : aftL ([], []) acts = q at okq bdq lq M4 rl
  refine for_it (walk_range (lo := 0) (n := ((rxs4.length : Int) + 1).toNat)) (fun i σ H' => (∃ x7 x8 x9 x10 x11 x12, σ = [some (.ref p), some (.int k), some (.ref l), some (.ref D5), some (.ref D6), some (.ref box), some (.ref ps), x7, x8, x9, x10, x11, x12]) ∧ But p H H' ∧ ∃ n, MI K k p box (.ref ps) q D5 xs acts H' (colM q acts n))
    ⟨⟨_, _, _, _, _, _, rfl⟩, b04, n4, M4⟩ (fun _ _ _ _ _ => trivial) (fun i x σ H11 H12 hi pp y => ?_) fun σ H11 pp => ?_
  · clear M4 b04
    obtain ⟨⟨x7, x8, x9, x10, x11, x12, rfl⟩, b11, n, M⟩ := pp
    obtain ⟨rfl, rfl⟩ := y
    refine (show gName 7 (V.int (0 + (i : Int))) _ _ _ from ?_)
    rw [Int.zero_add]
    have hi' : i ≤ q.2.length := by omega
    have l11 := b11 _ _ hl hlp
    refine ⟨_, rfl, _, rfl, _, rfl, l, _, rfl, .inl (SqL.of l11), p, _, rfl, M.pl, by rw [List.length_map]; omega, by rw [List.length_map]; omega, fun r H13 b13 p13 z0 z1 => ?_⟩
    rw [List.length_map] at z1
    obtain ⟨wd, hw, ea⟩ := wds_at z0 z1
    have M13 := M.pool T b13 p13
    have b013 := b11.tr b13
    have l13 := b13 _ _ l11 hlp
    have hnm := hws.nm wd hw
    have aoki : ActOk k q.2.length (.ins i wd 1) := ⟨hi', hnm, by decide⟩
    have okq' := aft_ok okq aoki
    have bdq' := aft_bd bdq (a := .ins i wd 1) (show (1 : Int) ≤ bigN by decide +kernel)
    have lq' := aft_len (q := q) (a := .ins i wd 1)
    refine ⟨l, _, r, .str wd, rfl, rfl, SqL.of l13, ea, ?_⟩
    refine ⟨_, rfl, _, rfl, _, rfl, by show 4 ≤ sizeLine; decide, fun q1 hq1 => ?_⟩
    have s14 := sm_new (o := .tup [.str "insert", .int (i : Int), .str wd, .int 1]) hq1
    have g14 : upd H13 q1 (.tup [.str "insert", .int (i : Int), .str wd, .int 1]) q1 = _ := upd_same
    generalize upd H13 q1 (.tup [.str "insert", .int (i : Int), .str wd, .int 1]) = H14 at s14 g14 ⊢
    have M14 := M13.same s14
    refine ⟨.ref ps, .ref q1, q, .ins i wd 1, k, Nil, rfl, M14.st, ⟨q1, _, rfl, .inl (.inl g14), rfl⟩, aoki, by omega, fun _ h => h.elim, fun lv H15 s15 hlv => ?_⟩
    have M15 := M14.same s15
    refine ⟨_, rfl, fun fr dfr hfn zf2 zf3 => made_C2 T hk hk8 hfn zf2 zf3 fun H16 s16 hcf => ⟨rfl, ?_⟩⟩
    have nfb : box ≠ fr := by
      obtain ⟨_, _, _, _, h, _⟩ := M15.bx
      exact ne_of_none h hfn
    have b015 := b013.tr (sm_bt (s14.trans s15))
    have hfn0 := new_none b015 M15.pl hfn
    have M16 := M15.same s16
    have hlv16 := lst_sv' (C := 0) (sm_sv s16) hlv
    obtain ⟨df, _, _, _, hf16, _⟩ := id hcf
    obtain ⟨d16, _, _, _, hb16, _⟩ := id M16.bx
    refine ⟨_, rfl, fr, df, _, rfl, hf16, fl_no rfl, _, rfl, box, d16, _, rfl, hb16, fl_no rfl, k, box, _, rfl, M16.bx, fun u1 hu1 => ⟨k, fr, u1, q.1, rfl, hu1, col0, hcf, rfl, okq.b, st_nil cn_nil, hk, hk8, by decide, by decide, fun u17 H17 b17 hcf17 _ => ?_⟩⟩
    have M17 := M16.other T hcf b17 nfb
    have hlv17 := lst_sv' (col_svB hcf b17) hlv16
    have b017 := bt_new (b015.tr (sm_bt s16)) b17 hfn0
    obtain ⟨d17, _, _, _, hb17, _⟩ := id M17.bx
    refine ⟨_, rfl, box, d17, _, rfl, hb17, fl_no rfl, _, rfl, _, rfl, k, box, i, wd, 1, rfl, _, M17.bx, rfl, aoki, okq, hk, hk8, by show q.2.length ≤ 90; omega, by show (pst ([], []) acts).length ≤ 200; omega, fun tv H18 b18 hc18 htv => ?_⟩
    have hc18' : ColAt K k H18 box ⟨aft q (.ins i wd 1), pst ([], []) acts ++ [(.ins i wd 1, q)], false, n⟩ := hc18
    have M18 := M17.col b18 hc18'
    have hlv18 := lst_sv' (col_svB M17.bx b18) hlv17
    have hcf18 : ColAt K k H18 fr ⟨(q.1, []), [(.sta q.1, ([], []))], false, 0⟩ := col_tv T (col_tvB M17.bx b18) (fun o e => b18 _ _ e nfb.symm) hcf17
    have b018 := bt_new b017 b18 hbn0
    obtain ⟨d18, _, _, _, hb18, _⟩ := id M18.bx
    refine ⟨_, rfl, box, d18, _, rfl, hb18, fl_no rfl, k, box, _, rfl, M18.bx, fun ev hev => ?_⟩
    have hev' : TupOf K (RowV K k) H18 ev (aft q (.ins i wd 1)).2 := hev
    have htv' : SumV K H18 tv (k, cur k (aft q (.ins i wd 1))) := htv
    have e1 : (aft q (.ins i wd 1)).1 = q.1 := rfl
    generalize eq1 : aft q (.ins i wd 1) = q' at okq' bdq' lq' hc18' M18 hlv18 hev' htv' e1 ⊢
    obtain ⟨ea, exs, rfl, hea, epd⟩ := id hev'
    have el := pd_len epd
    refine ⟨ea, rfl, ⟨exs, hea⟩, ?_⟩
    clear M M13 M14 M15 M16 M17 hlv hlv16 hlv17 hcf hcf17 b11 b013 b015 b017 s14 s15 s16 hb16 hb17 hb18 hf16
    refine for_it (walk_tup (xs := exs)) (fun j σ H' => (∃ x12, σ = [some (.ref p), some (.int k), some (.ref l), some (.ref D5), some (.ref D6), some (.ref box), some (.ref ps), some (.int (i : Int)), some (.str wd), some lv, some (.ref fr), some tv, x12]) ∧ But p H H' ∧ MI K k p box (.ref ps) q D5 xs acts H' ⟨q', pst ([], []) acts ++ [(.ins i wd 1, q)], false, n⟩ ∧ LStV K Nil H' lv q' ∧ SumV K H' tv (k, cur k q') ∧ SqT K H' ea exs ∧ Paired (RowV K k H') exs q'.2 ∧ ∃ past, past.length = j + 1 ∧ ColAt K k H' fr ⟨(q.1, q'.2.take j), past, false, 0⟩)
      ⟨⟨_, rfl⟩, b018, M18, hlv18, htv', hea, epd, _, rfl, hcf18⟩ (fun j σ H' _ pp => pp.2.2.2.2.2.1) (fun j x σ H19 H20 hj pp y => ?_) fun σ H19 pp => ?_
    · obtain ⟨⟨x12, rfl⟩, b19, M19, hlv19, htv19, hea19, epd19, past, hpl, hcf19⟩ := pp
      obtain ⟨rfl, ex⟩ := y
      obtain ⟨r0, er, hr0⟩ := pd_get epd19 ex
      have rok := okq'.r r0 (List.mem_of_getElem? er)
      have et : q'.2.take (j + 1) = q'.2.take j ++ [r0] := by
        rw [List.take_succ, er]
        rfl
      have st1 : StOk k (q.1, q'.2.take j) := ⟨okq.b, fun r hr => okq'.r r (List.mem_of_mem_take hr)⟩
      have ll : (q'.2.take j).length ≤ 90 := by
        rw [List.length_take]
        omega
      have pl200 : past.length ≤ 200 := by omega
      have back : ∀ (a : Act) (H' : Hp) (x12 : Option V), But fr H20 H' → ColAt K k H' fr ⟨(q.1, q'.2.take j ++ [r0]), past ++ [(a, (q.1, q'.2.take j))], false, 0⟩ → (∃ y12, [some (.ref p), some (.int k), some (.ref l), some (.ref D5), some (.ref D6), some (.ref box), some (.ref ps), some (.int (i : Int)), some (.str wd), some lv, some (.ref fr), some tv, x12] = [some (.ref p), some (.int k), some (.ref l), some (.ref D5), some (.ref D6), some (.ref box), some (.ref ps), some (.int (i : Int)), some (.str wd), some lv, some (.ref fr), some tv, y12]) ∧ But p H H' ∧ MI K k p box (.ref ps) q D5 xs acts H' ⟨q', pst ([], []) acts ++ [(.ins i wd 1, q)], false, n⟩ ∧ LStV K Nil H' lv q' ∧ SumV K H' tv (k, cur k q') ∧ SqT K H' ea exs ∧ Paired (RowV K k H') exs q'.2 ∧ ∃ past, past.length = j + 1 + 1 ∧ ColAt K k H' fr ⟨(q.1, q'.2.take (j + 1)), past, false, 0⟩ := fun a H' x12 b hc =>
        have tv := col_tvB hcf19 b
        ⟨⟨_, rfl⟩, bt_new b19 b hfn0, M19.other T hcf19 b nfb, lst_sv' (col_svB hcf19 b) hlv19, (stb_sum T).tv tv htv19, st_tv tv hea19, pd_imp (fun _ _ => (stb_row T).tv tv) epd19, _, by rw [List.length_append, hpl]; rfl, et ▸ hc⟩
      obtain ⟨df19, _, _, _, hf19, _⟩ := id hcf19
      have parts : (∃ y m c, r0 = .run y m ∧ x = .ref c ∧ SqT K H20 c [.str y, .int m] ∧ IsNm y ∧ 1 ≤ m) ∨ ∃ t, r0 = .sum t ∧ SumV K H20 x (k, t) ∧ Cn k t := by
        clear back
        cases r0 with
        | run y m =>
          obtain ⟨c, e, h⟩ := hr0
          exact .inl ⟨y, m, c, rfl, e, h, rok.1, rok.2⟩
        | sum t => exact .inr ⟨t, rfl, hr0, rok⟩
      rcases parts with ⟨y, m, c, rfl, rfl, hc, hy, hm⟩ | ⟨t, rfl, hs, hcn⟩
      · refine ⟨_, rfl, _, k, .run y m, rfl, hr0, false, rfl, iteF ?_⟩
        exact ⟨_, rfl, fr, df19, _, rfl, hf19, fl_no rfl, _, rfl, c, _, 0, _, rfl, rfl, hc, atI_nat (j := 0) rfl, _, rfl, c, _, 1, _, rfl, rfl, hc, atI_nat (j := 1) rfl, k, fr, y, m, rfl, _, hcf19, rfl, ⟨hy, hm⟩, st1, hk, hk8, ll, pl200, fun u H21 b21 hc21 _ => back _ H21 _ b21 hc21⟩
      · refine ⟨_, rfl, _, k, .sum t, rfl, hr0, true, rfl, iteT ?_⟩
        exact ⟨_, rfl, fr, df19, _, rfl, hf19, fl_no rfl, _, rfl, k, fr, x, t, rfl, hs, _, hcf19, rfl, hcn, st1, hk, hk8, ll, pl200, fun u H21 b21 hc21 _ => back _ H21 _ b21 hc21⟩
    · obtain ⟨⟨x12, rfl⟩, b19, M19, hlv19, htv19, hea19, epd19, past, hpl, hcf19⟩ := pp
      rw [el, List.take_length] at hcf19
      clear hlv18 htv' hcf18 M18 b018 hea epd hev' hev b18 hc18 hc18' htv b17 hu1
      have cnq' := cur_cn hk okq'
      have txq' : Txr (cur k q') := txr_of (Nat.le_trans hk8 (by decide)) cnq' (cur_huge hk hk8 okq' bdq' (by omega))
      have sf := fun {x : V} => (by simp : (!decide (x = x)) = false)
      have htv0 := htv19
      obtain ⟨ta, td, tc, rfl, hta, htc⟩ := htv0
      obtain ⟨tca, _, rfl, _⟩ := id htc
      have htc' : TupOf K (PrV K) H19 (.ref tca) (cur k q') := htc
      refine ⟨_, rfl, ta, _, td, _, _, rfl, hta, T.c_Summary, T.n_Summary_counts, lk_cc, tca, _, rfl, dp_tab htc', (sho_tab txq').mono (by decide) (by decide), ?_⟩
      refine ⟨_, rfl, _, rfl, k, lv, q', Nil, rfl, hlv19, okq', hk, hk8, fun nv H20 s20 hnv => ?_⟩
      obtain ⟨na, _, rfl, _⟩ := id hnv
      refine ⟨na, _, rfl, dp_tab hnv, (sho_tab txq').mono (by decide) (by decide), rfl, _, congrArg V.bl sf, iteF ?_⟩
      have M20 := M19.same s20
      have hcf20 := col_same s20 hcf19
      have htv20 := sum_same s20 htv19
      obtain ⟨df20, _, _, _, hf20, _⟩ := id hcf20
      have eqf : ((q.1, q'.2) : Sta) = q' := by rw [← e1]
      have okf : StOk k (q.1, q'.2) := by rw [eqf]; exact okq'
      refine ⟨_, rfl, _, rfl, fr, df20, _, rfl, hf20, fl_no rfl, k, fr, _, rfl, hcf20, okf, hk, hk8, fun cv H21 s21 hcv => ?_⟩
      have hcv' : SumV K H21 cv (k, cur k (q.1, q'.2)) := hcv
      rw [eqf] at hcv'
      have htv21 := sum_same s21 htv20
      have hcv0 := hcv'
      have htv1 := htv21
      obtain ⟨ca, cd, cc, rfl, hca, _⟩ := hcv0
      obtain ⟨ta', td', tc', e3, hta', _⟩ := htv1
      cases e3
      refine ⟨ta, ca, _, _, _, _, rfl, rfl, hta', hca, ta, ca, rfl, ⟨_, htv21, hcv'⟩, fun H22 s22 => ⟨true, rfl, false, rfl, iteF ?_⟩⟩
      have s2022 : Same H20 H22 := s21.trans s22
      have M22 := M20.same s2022
      have hcf22 := col_same s2022 hcf20
      obtain ⟨df22, _, _, _, hf22, _⟩ := id hcf22
      obtain ⟨d22, _, _, _, hb22, _⟩ := id M22.bx
      refine ⟨_, rfl, _, rfl, box, fr, d22, df22, _, _, rfl, rfl, hb22, hf22, k, box, fr, _, _, rfl, M22.bx, hcf22, e1, .inl ⟨rfl, fun H23 s23 => ⟨true, rfl, false, rfl, iteF ?_⟩⟩⟩
      have M23 := M22.same s23
      obtain ⟨d23, _, _, _, hb23, _⟩ := id M23.bx
      refine ⟨_, rfl, box, d23, _, rfl, hb23, fl_no rfl, k, box, _, pst ([], []) acts, .ins i wd 1, q, rfl, M23.bx, rfl, rfl, by omega, okq, hk, hk8, fun u24 H24 b24 hc24 _ => ?_⟩
      have hc24' : ColAt K k H24 box (colM q acts n) := hc24
      have M24 := M23.col b24 hc24'
      have b024 := bt_new (b19.tr (sm_bt (s20.trans (s2022.trans s23)))) b24 hbn0
      exact ⟨_, rfl, _, rfl, _, rfl, k, box, .ref ps, colM q acts n, rfl, M24.bx, M24.st, stT_of hk hk8 okq bdq (show q.2.length ≤ 90 by omega), hk, hk8, fun H25 s25 => ⟨true, rfl, iteF ⟨⟨_, _, _, _, _, _, rfl⟩, b024.tr (sm_bt s25), n, M24.same s25⟩⟩⟩
  · obtain ⟨⟨x7, x8, x9, x10, x11, x12, rfl⟩, b11, n, M⟩ := pp
    obtain ⟨d11, _, _, _, hb11, _⟩ := id M.bx
    refine ⟨_, rfl, box, d11, _, rfl, hb11, fl_no rfl, k, box, _, rfl, M.bx, by show (pst ([], []) acts).length ≤ 1000; omega, fun v9 H12 s12 hv9 => ?_⟩
    have hv9' : TupOf K (ActV K k) H12 v9 ((pst ([], []) acts).map (·.1)) := hv9
    rw [pst_fst] at hv9'
    refine ⟨v9, k, acts, rfl, hv9', hk8, htx.1, htx.2, fun H13 s13 => ?_⟩
    have M13 := M.same (s12.trans s13)
    refine ⟨_, rfl, _, rfl, k, D5, xs, acts, rfl, M13.ls, M13.pa, cns, hk, hk8, by omega, fun v10 H14 s14 hv10 => ⟨v10, k, acts, rfl, hv10, hk8, htx.1, htx.2, fun H15 s15 => ⟨rfl, ?_⟩⟩⟩
    rw [decide_eq_true rfl]
    have s1115 := (s12.trans s13).trans (s14.trans s15)
    exact fin _ (b11.tr (sm_bt s1115)) (pool_same s1115 M.pl)
end
end Kx
set_option Elab.async false
set_option linter.all false
set_option maxRecDepth 100000
set_option maxHeartbeats 4000000
namespace Kx
open PySem PySem.Spec PyProof.Rows L2
theorem same_but {H H1 H2 : Hp} {p : Addr} (s : Same H H1) (b : But p H1 H2) (h : H p = none) : Same H H2 := fun x o e => b x o (s x o e) (ne_of_none e h)
theorem sql_same {K : PySem.W.Frag} {H H' : Hp} {a : Addr} {xs : List V} (s : Same H H') (h : SqL K H a xs) : SqL K H' a xs := h.ext s
section
variable {P : Program} {w : World} {K : PySem.W.Frag} {mg : Str → Option Value} {base : Heap}
def spRight : Sp := fun vs H Q _ => ∃ p : Addr, vs = [.ref p] ∧ PoolAt H p ∧ ∀ H', But p H H' → PoolAt H' p → Q (.bl true) H'
theorem ok_lright (T : Tx w K mg) : Fg P w K mg base 15 "_law_right" ["_law_pool_here"] spRight := by
  refine T.G__law_right (fun vs H Q E h => ?_) (fun cdv A outer s H vs Q E hG hr h => ?_)
  · obtain ⟨_, rfl, _⟩ := h
    rfl
  obtain ⟨p, rfl, hp, fin⟩ := h
  refine ⟨_, pss_cons (ps_par (i := 1) (j := 2) rfl sc__law_right.nd rfl rfl (by decide) rfl rfl (pa_cons (pe_op op_add pe_int (pe_f (ok_ldraw T) (hr.mono (by decide)) (pa_cons (pv 0) (pa_cons pe_int pa_nil))))
      (pa_cons (pe_f (ok_lwords T) (hr.mono (by decide)) (pa_cons (pv 0) (pa_cons (pe_op op_add pe_int (pe_f (ok_ldraw T) (hr.mono (by decide)) (pa_cons (pv 0) (pa_cons pe_int pa_nil)))) pa_nil))) pa_nil)) (by kernel_rfl))
    (pss_one (ps_ret (pe_and (pe_g (ok_lrunsR T) hG (hr.mono (by decide)) (pa_cons (pv 0) (pa_cons (pv 1) (pa_cons (pv 2) pa_nil)))) (pe_one (pe_g (ok_lmergesR T) hG (hr.mono (by decide)) (pa_cons (pv 0) (pa_cons (pv 1) (pa_cons (pv 2) pa_nil)))))))), ?_⟩
  refine ⟨_, rfl, p, 8, rfl, hp, by decide, by decide, fun r1 H1 b1 p1 r10 r11 => ?_⟩
  obtain ⟨m, rfl⟩ : ∃ m : Nat, r1 = m := ⟨r1.toNat, by omega⟩
  refine ⟨_, _, rfl, rfl, _, rfl, _, rfl, p, 8, rfl, p1, by decide, by decide, fun r2 H2 b2 p2 r20 r21 => ?_⟩
  obtain ⟨n, rfl⟩ : ∃ n : Nat, r2 = n := ⟨r2.toNat, by omega⟩
  have e1 : (1 : Int) + (m : Int) = ((1 + m : Nat) : Int) := by omega
  have e2 : (1 : Int) + (n : Int) = ((1 + n : Nat) : Int) := by omega
  refine ⟨_, _, rfl, rfl, p, 1 + n, congrArg (fun z => [V.ref p, V.int z]) e2, p2, by omega, by omega, fun l ws H3 b3 p3 lp hl0 hl W => ⟨_, _, rfl, ?_⟩⟩
  have b03 : But p H H3 := b1.tr (b2.tr b3)
  refine ⟨_, rfl, _, rfl, _, rfl, p, l, 1 + m, ws, congrArg (fun z => [V.ref p, V.int z, V.ref l]) e1, p3, hl, W, by omega, by omega, fun H4 b4 p4 => ⟨true, rfl, iteT ?_⟩⟩
  exact ⟨_, rfl, _, rfl, _, rfl, p, l, 1 + m, ws, congrArg (fun z => [V.ref p, V.int z, V.ref l]) e1, p4, b4 _ _ hl lp, W, by omega, by omega, fun H5 b5 p5 => fin _ (b03.tr (b4.tr b5)) p5⟩
def spLaw : Sp := fun vs H Q _ => ∃ (a : Addr) (ns : List Int), vs = [.ref a] ∧ SqL K H a (ns.map V.int) ∧ ns.length ≤ 63 ∧ ∀ H', Q (.bl true) H'
theorem ok_law (T : Tx w K mg) : Fg P w K mg base 16 "law" ["_law_script"] (spLaw (K := K)) := by
  refine T.G_law (fun vs H Q E h => ?_) (fun cdv A outer s H vs Q E hG hr h => ?_)
  · obtain ⟨_, _, rfl, _⟩ := h
    rfl
  obtain ⟨a, ns, rfl, ha, hz, fin⟩ := h
  refine ⟨_, pss_one (ps_ret (pe_callB (cr_all rfl) (by rfl) T.b_all bt_all (pa_cons (pe_lc (own := [("_law_k", 1)]) (g := gName 1) (tt := tYes) rfl sc_law.nd
      (pi_range1 (by rfl) T.b_range (pa_cons (pe_callB (call_max2 rfl) (by rfl) T.b_max bt_max (pa_cons pe_int (pa_cons (pe_callB (call_min2 rfl) (by rfl) T.b_min bt_min (pa_cons (pe_callB call_len_seq (by rfl) T.b_len bt_len (pa_cons (pv 0) pa_nil)) (pa_cons pe_int pa_nil))) pa_nil))) pa_nil))
      (blkOk_by (N := n_law) (sc := defScope s_law) (by decide +kernel)) (fun _ _ _ _ _ => pg_name (i := 1) sc_law.nd rfl (Or.inl rfl)) (fun _ _ _ _ _ => pts_nil)
      (fun _ _ _ _ _ => pe_g (ok_lright T) hG hr (pa_cons (pe_f (ok_lpool T) (hr.mono (by decide)) (pa_cons (pe_f (ok_lcell T) (hr.mono (by decide)) (pa_cons (pv 0) (pa_cons (pv 1) pa_nil))) pa_nil)) pa_nil))) pa_nil))), ?_⟩
  refine ⟨_, rfl, a, _, rfl, .inl ha, _, _, rfl, _, _, rfl, ?_⟩
  rw [List.length_map]
  generalize eN : (if (if (6 : Int) < (ns.length : Nat) then (6 : Int) else (ns.length : Nat)) > 2 then (if (6 : Int) < (ns.length : Nat) then (6 : Int) else (ns.length : Nat)) else (2 : Int)) = N
  have hN : 0 ≤ N ∧ N ≤ 6 := by
    rw [← eN]
    split <;> split <;> omega
  refine ⟨_, rfl, by omega, by omega, fun D hD => ?_⟩
  refine lc_M (C := 0) (walk_range (lo := 0) (n := N.toNat)) (List.range N.toNat) (fun _ => true) (fun _ v b => v = .bl b) ⟨fun _ h => h⟩ (by simp) (by omega) hD (fun _ _ => trivial) (fun i k v H1 H2 F1 hi s y f1 => ?_) fun ys H1 s hy pd => ?_
  · obtain ⟨rfl, rfl⟩ := y
    obtain ⟨hi', rfl⟩ : ∃ h : i < N.toNat, i = k := by
      obtain ⟨h1, h2⟩ := List.getElem?_eq_some_iff.mp hi
      rw [List.getElem_range] at h2
      exact ⟨by simpa using h1, h2⟩
    have e0 : (0 : Int) + (i : Int) = (i : Int) := Int.zero_add _
    refine ⟨rfl, _, rfl, _, rfl, a, ns, i, congrArg (fun z => [V.ref a, V.int z]) e0, sql_same s ha, by omega, fun c H3 s3 => ⟨c, rfl, fun p H4 s4 hp hP => ⟨p, rfl, hP, fun H5 b5 _ => f1 _ _ (same_but (s3.trans s4) b5 (same_none s3 hp)) rfl⟩⟩⟩
  · have ey : ys = ((List.range N.toNat).map fun _ => true).map V.bl := pd_eq (h := V.bl) pd
    exact ⟨D, _, rfl, SqL.of (ey ▸ hy), bl_t (by simp) (fin _)⟩
end
end Kx
set_option Elab.async false
set_option linter.all false
set_option maxRecDepth 100000
set_option maxHeartbeats 4000000
namespace Kx
open PySem PySem.Spec PyProof.Rows L2
/-! ### the law is called -/
section
variable {P : Program} {w : World} {K : PySem.W.Frag} {mg mb : Str → Option Value} {s : Shared} {a fa : Addr} {vs : List Value} {ns : List Int}
/-- the script: an object that the module holds, or the one thing that is followed -/
theorem script_hp (KX : K.In s.heap) (ha : s.heap.get? a = some { cls := .type "list", data := .seq vs.toArray }) (hi : IntsAre vs ns) (hl : ns.length ≤ sizeLine) :
    ∃ H : Hp, (∀ b u, H b = some u → b = a ∧ K.lookup a = none ∧ ∃ o xs, u = .frz o (.lst xs)) ∧ SqL K H a (ns.map V.int) ∧ HOk P w H s.heap := by
  have rel := vals_ints hi
  have len := hi.length
  cases e : K.lookup a with
  | some o =>
    have h := KX a o e
    rw [ha] at h
    cases h
    have off : ∀ u : HO, (none : Option HO) = some u → False := fun u z => by cases z
    exact ⟨fun _ => none, fun b u z => (off u z).elim, .inr ⟨_, vs.toArray, _, e, rfl, rfl, rfl, by rw [List.size_toArray, len]; exact hl, by simpa using rel⟩, fun b u z => (off u z).elim⟩
  | none =>
    refine ⟨upd (fun _ => none) a (.frz { cls := .type "list", data := .seq vs.toArray } (.lst (ns.map V.int))), fun b u z => ?_, .inl (.inr ⟨_, upd_same⟩), fun b u z => ?_⟩
    · by_cases q : b = a
      · subst q
        rw [upd_same] at z
        exact ⟨rfl, rfl, _, _, (Option.some.inj z).symm⟩
      · rw [upd_ne q] at z
        cases z
    · by_cases q : b = a
      · subst q
        rw [upd_same] at z
        cases z
        exact ⟨ha, by rw [List.length_map]; exact hl, vs, _, rel, ha⟩
      · rw [upd_ne q] at z
        cases z
theorem law_top (T : Tx w K mg) (KX : K.In s.heap) (hns : s.heap.Ns mainGlobals mg) (hb : s.heap.Ns builtinsNs mb) (hbb : ∀ x : Str, x ≠ "__name__" → mb x = bootBuiltins x) (hlim : s.heap.NoLimit) (hg : s.gens = #[])
    (ha : s.heap.get? a = some { cls := .type "list", data := .seq vs.toArray }) (hi : IntsAre vs ns) (hl : ns.length ≤ 63) (hm : mg "law" = some (.ref fa)) (hr : Room 16 callerA) :
    codeAny (model P w) callerA (.call (.ref fa) ⟨[.ref a], []⟩) (fun r t => r = .ok (.ret (.bool true)) ∧ OldK s.heap t.heap ∧ t.os = s.os ∧ AllBare t.gens) s := by
  obtain ⟨H, only, sq, hok⟩ := script_hp (P := P) (w := w) KX ha hi (Nat.le_trans hl (by rw [sizeLine_eq]; decide))
  -- what is no list is not followed
  have clear : ∀ {b : Addr} {o : Obj}, s.heap.get? b = some o → (b = a → K.lookup a = none → False) → (hidT s.heap H).get? b = some o := fun {b o} e n => hidT_get e (by
    cases q : H b with
    | none => rfl
    | some u =>
      obtain ⟨h1, h2, _⟩ := only b u q
      exact (n h1 h2).elim)
  have spaces : ∀ {b : Addr} {m : Str → Option Value}, s.heap.Ns b m → (hidT s.heap H).Ns b m := fun {b m} ⟨o, es, ep, e, d, r⟩ => ⟨o, es, ep, clear e (fun z _ => by
    rw [z, ha] at e
    cases e
    exact nomatch d), d, r⟩
  have hK : K.In (hidT s.heap H) := fun b o e => clear (KX b o e) fun z n => by
    rw [z, n] at e
    cases e
  have md : Mod K mg (hidT s.heap H) := ⟨hK, spaces hns, ⟨mb, spaces hb, hbb⟩, let ⟨mc, h1, h2⟩ := hlim; ⟨mc, spaces h1, h2⟩⟩
  have env : Env0 P w K mg (hidT s.heap H) callerA [] s H := ⟨rfl, md, fun b o e => of_hidT e, Nat.le_of_eq (hidT_size _ _), trivial, (fun b z => nomatch z), hok, .of_eq hg⟩
  obtain ⟨f, fd, G, hm2, _, bd⟩ := (ok_law (P := P) (base := hidT s.heap H) T).ex
  obtain rfl : f = fa := Value.ref.inj (Option.some.inj (hm2.symm.trans hm))
  refine codeAny_mono (G.run callerA [] s H ⟨[.ref a], []⟩ [.ref a] [.ref a] (fun v _ => v = .bl true) (fun _ _ _ => False) rfl hr env (bd s [.ref a] KX rfl) (.cons rfl .nil) ⟨a, ns, rfl, sq, hl, fun _ => rfl⟩) fun r t z => ?_
  cases r with
  | error e => exact z.elim
  | ok fl =>
    cases fl with
    | ret u =>
      obtain ⟨v, H2, os, bare, un, hok2, rv, q⟩ := z
      subst q
      cases rv
      refine ⟨rfl, OldK.of_keep fun b o e => ?_, os, bare⟩
      cases q : H b with
      | none => exact un.keep b o e q (fun z => nomatch z) (by simp)
      | some u =>
        obtain ⟨_, _, ob, xs, rfl⟩ := only b u q
        obtain ⟨e1, _⟩ := hok b _ q
        obtain ⟨e2, _⟩ := hok2 b _ (un.frzs b ob _ q)
        rw [e] at e1
        cases e1
        exact e2
    | next => exact z.elim
    | brk => exact z.elim
    | cont => exact z.elim
end
end Kx
set_option Elab.async false
set_option linter.all false
set_option maxRecDepth 100000
set_option maxHeartbeats 0
open PySem PySem.W PySem.Calls PyProof.Rows
theorem PySem.Challenge.cw_tallyplans_k93_whole_late_arrivals_of_a_holds : PySem.Challenge.rw_tallyplans_k93_whole_late_arrivals_of_a.Holds := by
  w_on; o_law
  refine HandSHeadRun.head_any (r := Kx.R) (q := view Kx.R.prog [88]) (H := Kx.hk) (ob := Kx.ob) (M := 12000) (loose := Kx.names) (d := HandSHeadRun.topDef Kx.R.prog 88) (kwd := []) Kx.ob_eq
    (by kernel_rfl) (fun s => by kernel_rfl) Kx.run (by kernel_rfl) (by kernel_rfl) (by kernel_rfl) (by rfl) (by first | assumption | decide +kernel) (by decide +kernel) ⟨rfl, rfl, rfl, rfl, rfl, by decide +kernel⟩ ?hw ?hc
  case hw => w_witness2
  case hc =>
    refine Att.attach_call (l := PySem.Challenge.rw_tallyplans_k93_whole_late_arrivals_of_a) (n := 63) rfl (by kernel_rfl) fun w s₀ s₁ mg mb fa o pm cd doc a vs ns G Y ho hd hcd hmg hobj hints hlen hg => ?_
    obtain ⟨K, KX, c⟩ := Y
    have e : (HandSHeadRun.topDef Kx.R.prog 88).name = ("law" : PySem.Str) := by kernel_rfl
    rw [e] at hmg
    exact Kx.law_top ⟨c, fun x v q => PySem.W.mg_of KX G.T.g q, fun x q => PySem.W.mg_none_of KX G.T.g q⟩ KX G.T.g G.T.b G.T.builtins G.T.nolimit hg hobj hints hlen hmg ⟨rfl, by decide, by decide⟩
