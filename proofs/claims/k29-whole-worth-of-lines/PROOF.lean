import PyProof.Rows.All
import Wide.All
import OpenK.AllK
import Wide.FinOn
import KE.KStateDown
import Lean
import HandS.ForMost
import HandS.Defaults
import HandS.HeadHook1
import HandS.HeadHook2
import HandS.HeadHook3
import HandS.HeadHook4
import HandS.Head0
import HandS.Head1
import HandS.Head2
import HandS.HeadEnd
import HandS.HeadWalk
import KE.GoesNew
import KE.GoesEnum
import HandS.Zip
import HandS.Walk
import KE.Datum
import KE.DatumIndex
import HandS.Style
import HandS.IsInst
import HandS.Conv
import HandS.TupAny
import HandS.Strs
import HandS.ExcOwn
import HandS.Small
import HandS.ExcBuiltin
import HandS.SetBool
import HandS.DictComp
import KE.KDictZip
import KE.KDictDisplayH
import KE.GoesZip
import HandS.Flow
import HandS.Star
import HandS.Text
import HandS.Exc
import HandS.Lambda
import HandS.Codes
import KE.KItemsList
import HandS.ListItems
import HandS.WordsDict
import HandS.TryOnly
import PySem.Challenge.RW_basetrees_k29_whole_worth_of_lines
set_option Elab.async false
set_option linter.all false
set_option maxRecDepth 100000
set_option maxHeartbeats 4000000
/-! The text by places; the facts that the head is asked for. Printed by gentop.py. -/
namespace K29
open PySem PySem.Spec PyProof.Rows L2
def top (i : Nat) : Stmt := PySem.Challenge.pw_basetrees_k29_whole_worth_of_lines.main.body.getD i (.Pass ⟨0, 0, 0, 0⟩)
abbrev sis_integer : Stmt := top 12
abbrev sis_between : Stmt := top 13
abbrev sis_name : Stmt := top 14
abbrev sare_beside : Stmt := top 16
abbrev swalk_from : Stmt := top 17
abbrev sis_closed : Stmt := top 18
abbrev srow_of : Stmt := top 19
abbrev srows_in : Stmt := top 20
abbrev sare_sources : Stmt := top 24
abbrev sweb_in : Stmt := top 25
abbrev sweb_text : Stmt := top 26
abbrev sWebInit : Stmt := inClass (top 27) 0
abbrev scheck_web : Stmt := top 28
abbrev scheck_copy : Stmt := top 29
abbrev scheck_line : Stmt := top 30
abbrev sall_rows : Stmt := top 32
abbrev sis_let : Stmt := top 34
abbrev sis_end_let : Stmt := top 35
abbrev sstates : Stmt := top 36
abbrev sis_row_let : Stmt := top 37
abbrev snumber_in : Stmt := top 38
abbrev snumber_with : Stmt := top 39
abbrev ssettings_of : Stmt := top 40
abbrev scheck_some : Stmt := top 42
abbrev scheck_weights : Stmt := top 44
abbrev scheck_weighed : Stmt := top 45
abbrev sby_line : Stmt := top 46
abbrev ssums_in : Stmt := top 47
abbrev sbest_with : Stmt := top 48
abbrev sbest_sum : Stmt := top 49
abbrev sworth : Stmt := top 50
abbrev s_Lwell : Stmt := top 52
abbrev s_Ldraw : Stmt := top 53
abbrev s_Lnames : Stmt := top 54
abbrev s_Lfree : Stmt := top 55
abbrev s_Lblock : Stmt := top 56
abbrev s_Lways_in : Stmt := top 57
abbrev s_Llaid : Stmt := top 58
abbrev s_Lweb : Stmt := top 59
abbrev s_Ltext : Stmt := top 60
abbrev s_Llines : Stmt := top 61
abbrev s_Linner : Stmt := top 62
abbrev s_Ltuples : Stmt := top 63
abbrev s_Lchoices : Stmt := top 64
abbrev s_Ltable : Stmt := top 65
abbrev s_Lrow : Stmt := top 66
abbrev s_Lsame : Stmt := top 67
abbrev s_Lloads : Stmt := top 68
abbrev s_Ltotal : Stmt := top 69
abbrev s_Ltry : Stmt := top 70
abbrev s_Ldue : Stmt := top 71
abbrev s_Lsmall_right : Stmt := top 72
abbrev s_Lzigzag : Stmt := top 73
abbrev s_Lkept_ways : Stmt := top 74
abbrev s_Lgreat_right : Stmt := top 75
abbrev slaw : Stmt := top 76
def dis_integer : He.DefD := ⟨("is_integer", none), "is_integer", "is_integer", defArgs sis_integer, defBody sis_integer, defScope sis_integer, [], []⟩
def dis_between : He.DefD := ⟨("is_between", none), "is_between", "is_between", defArgs sis_between, defBody sis_between, defScope sis_between, [], []⟩
def dis_name : He.DefD := ⟨("is_name", none), "is_name", "is_name", defArgs sis_name, defBody sis_name, defScope sis_name, [], []⟩
def dare_beside : He.DefD := ⟨("are_beside", none), "are_beside", "are_beside", defArgs sare_beside, defBody sare_beside, defScope sare_beside, [], []⟩
def dwalk_from : He.DefD := ⟨("walk_from", none), "walk_from", "walk_from", defArgs swalk_from, defBody swalk_from, defScope swalk_from, [], []⟩
def dis_closed : He.DefD := ⟨("is_closed", none), "is_closed", "is_closed", defArgs sis_closed, defBody sis_closed, defScope sis_closed, [], []⟩
def drow_of : He.DefD := ⟨("row_of", none), "row_of", "row_of", defArgs srow_of, defBody srow_of, defScope srow_of, [], []⟩
def drows_in : He.DefD := ⟨("rows_in", none), "rows_in", "rows_in", defArgs srows_in, defBody srows_in, defScope srows_in, [], []⟩
def dare_sources : He.DefD := ⟨("are_sources", none), "are_sources", "are_sources", defArgs sare_sources, defBody sare_sources, defScope sare_sources, [], []⟩
def dweb_in : He.DefD := ⟨("web_in", none), "web_in", "web_in", defArgs sweb_in, defBody sweb_in, defScope sweb_in, [], []⟩
def dweb_text : He.DefD := ⟨("web_text", none), "web_text", "web_text", defArgs sweb_text, defBody sweb_text, defScope sweb_text, [], []⟩
def dWebInit : He.DefD := ⟨("Web", some (PySem.Str.ofString "__init__")), "__init__", "Web.__init__", defArgs sWebInit, defBody sWebInit, defScope sWebInit, [], []⟩
def dcheck_web : He.DefD := ⟨("check_web", none), "check_web", "check_web", defArgs scheck_web, defBody scheck_web, defScope scheck_web, [], []⟩
def dcheck_copy : He.DefD := ⟨("check_copy", none), "check_copy", "check_copy", defArgs scheck_copy, defBody scheck_copy, defScope scheck_copy, [], []⟩
def dcheck_line : He.DefD := ⟨("check_line", none), "check_line", "check_line", defArgs scheck_line, defBody scheck_line, defScope scheck_line, [], []⟩
def dall_rows : He.DefD := ⟨("all_rows", none), "all_rows", "all_rows", defArgs sall_rows, defBody sall_rows, defScope sall_rows, [], []⟩
def dis_let : He.DefD := ⟨("is_let", none), "is_let", "is_let", defArgs sis_let, defBody sis_let, defScope sis_let, [], []⟩
def dis_end_let : He.DefD := ⟨("is_end_let", none), "is_end_let", "is_end_let", defArgs sis_end_let, defBody sis_end_let, defScope sis_end_let, [], []⟩
def dstates : He.DefD := ⟨("states", none), "states", "states", defArgs sstates, defBody sstates, defScope sstates, [], []⟩
def dis_row_let : He.DefD := ⟨("is_row_let", none), "is_row_let", "is_row_let", defArgs sis_row_let, defBody sis_row_let, defScope sis_row_let, [], []⟩
def dnumber_in : He.DefD := ⟨("number_in", none), "number_in", "number_in", defArgs snumber_in, defBody snumber_in, defScope snumber_in, [], []⟩
def dnumber_with : He.DefD := ⟨("number_with", none), "number_with", "number_with", defArgs snumber_with, defBody snumber_with, defScope snumber_with, [.adr (He.dflAt ("number_with", none) 0)], []⟩
def dsettings_of : He.DefD := ⟨("settings_of", none), "settings_of", "settings_of", defArgs ssettings_of, defBody ssettings_of, defScope ssettings_of, [], []⟩
def dcheck_some : He.DefD := ⟨("check_some", none), "check_some", "check_some", defArgs scheck_some, defBody scheck_some, defScope scheck_some, [], []⟩
def dcheck_weights : He.DefD := ⟨("check_weights", none), "check_weights", "check_weights", defArgs scheck_weights, defBody scheck_weights, defScope scheck_weights, [], []⟩
def dcheck_weighed : He.DefD := ⟨("check_weighed", none), "check_weighed", "check_weighed", defArgs scheck_weighed, defBody scheck_weighed, defScope scheck_weighed, [], []⟩
def dby_line : He.DefD := ⟨("by_line", none), "by_line", "by_line", defArgs sby_line, defBody sby_line, defScope sby_line, [], []⟩
def dsums_in : He.DefD := ⟨("sums_in", none), "sums_in", "sums_in", defArgs ssums_in, defBody ssums_in, defScope ssums_in, [], []⟩
def dbest_with : He.DefD := ⟨("best_with", none), "best_with", "best_with", defArgs sbest_with, defBody sbest_with, defScope sbest_with, [], []⟩
def dbest_sum : He.DefD := ⟨("best_sum", none), "best_sum", "best_sum", defArgs sbest_sum, defBody sbest_sum, defScope sbest_sum, [], []⟩
def dworth : He.DefD := ⟨("worth", none), "worth", "worth", defArgs sworth, defBody sworth, defScope sworth, [], []⟩
def d_Lwell : He.DefD := ⟨("_law_well", none), "_law_well", "_law_well", defArgs s_Lwell, defBody s_Lwell, defScope s_Lwell, [], []⟩
def d_Ldraw : He.DefD := ⟨("_law_draw", none), "_law_draw", "_law_draw", defArgs s_Ldraw, defBody s_Ldraw, defScope s_Ldraw, [], []⟩
def d_Lnames : He.DefD := ⟨("_law_names", none), "_law_names", "_law_names", defArgs s_Lnames, defBody s_Lnames, defScope s_Lnames, [], []⟩
def d_Lfree : He.DefD := ⟨("_law_free", none), "_law_free", "_law_free", defArgs s_Lfree, defBody s_Lfree, defScope s_Lfree, [], []⟩
def d_Lblock : He.DefD := ⟨("_law_block", none), "_law_block", "_law_block", defArgs s_Lblock, defBody s_Lblock, defScope s_Lblock, [], []⟩
def d_Lways_in : He.DefD := ⟨("_law_ways_in", none), "_law_ways_in", "_law_ways_in", defArgs s_Lways_in, defBody s_Lways_in, defScope s_Lways_in, [], []⟩
def d_Llaid : He.DefD := ⟨("_law_laid", none), "_law_laid", "_law_laid", defArgs s_Llaid, defBody s_Llaid, defScope s_Llaid, [], []⟩
def d_Lweb : He.DefD := ⟨("_law_web", none), "_law_web", "_law_web", defArgs s_Lweb, defBody s_Lweb, defScope s_Lweb, [], []⟩
def d_Ltext : He.DefD := ⟨("_law_text", none), "_law_text", "_law_text", defArgs s_Ltext, defBody s_Ltext, defScope s_Ltext, [], []⟩
def d_Llines : He.DefD := ⟨("_law_lines", none), "_law_lines", "_law_lines", defArgs s_Llines, defBody s_Llines, defScope s_Llines, [], []⟩
def d_Linner : He.DefD := ⟨("_law_inner", none), "_law_inner", "_law_inner", defArgs s_Linner, defBody s_Linner, defScope s_Linner, [], []⟩
def d_Ltuples : He.DefD := ⟨("_law_tuples", none), "_law_tuples", "_law_tuples", defArgs s_Ltuples, defBody s_Ltuples, defScope s_Ltuples, [], []⟩
def d_Lchoices : He.DefD := ⟨("_law_choices", none), "_law_choices", "_law_choices", defArgs s_Lchoices, defBody s_Lchoices, defScope s_Lchoices, [], []⟩
def d_Ltable : He.DefD := ⟨("_law_table", none), "_law_table", "_law_table", defArgs s_Ltable, defBody s_Ltable, defScope s_Ltable, [], []⟩
def d_Lrow : He.DefD := ⟨("_law_row", none), "_law_row", "_law_row", defArgs s_Lrow, defBody s_Lrow, defScope s_Lrow, [], []⟩
def d_Lsame : He.DefD := ⟨("_law_same", none), "_law_same", "_law_same", defArgs s_Lsame, defBody s_Lsame, defScope s_Lsame, [], []⟩
def d_Lloads : He.DefD := ⟨("_law_loads", none), "_law_loads", "_law_loads", defArgs s_Lloads, defBody s_Lloads, defScope s_Lloads, [], []⟩
def d_Ltotal : He.DefD := ⟨("_law_total", none), "_law_total", "_law_total", defArgs s_Ltotal, defBody s_Ltotal, defScope s_Ltotal, [], []⟩
def d_Ltry : He.DefD := ⟨("_law_try", none), "_law_try", "_law_try", defArgs s_Ltry, defBody s_Ltry, defScope s_Ltry, [], []⟩
def d_Ldue : He.DefD := ⟨("_law_due", none), "_law_due", "_law_due", defArgs s_Ldue, defBody s_Ldue, defScope s_Ldue, [], []⟩
def d_Lsmall_right : He.DefD := ⟨("_law_small_right", none), "_law_small_right", "_law_small_right", defArgs s_Lsmall_right, defBody s_Lsmall_right, defScope s_Lsmall_right, [], []⟩
def d_Lzigzag : He.DefD := ⟨("_law_zigzag", none), "_law_zigzag", "_law_zigzag", defArgs s_Lzigzag, defBody s_Lzigzag, defScope s_Lzigzag, [], []⟩
def d_Lkept_ways : He.DefD := ⟨("_law_kept_ways", none), "_law_kept_ways", "_law_kept_ways", defArgs s_Lkept_ways, defBody s_Lkept_ways, defScope s_Lkept_ways, [], []⟩
def d_Lgreat_right : He.DefD := ⟨("_law_great_right", none), "_law_great_right", "_law_great_right", defArgs s_Lgreat_right, defBody s_Lgreat_right, defScope s_Lgreat_right, [], []⟩
def dlaw : He.DefD := ⟨("law", none), "law", "law", defArgs slaw, defBody slaw, defScope slaw, [], []⟩
def fn0 : List He.DefD := [dis_integer, dis_between, dis_name, dare_beside, dwalk_from, dis_closed, drow_of, drows_in, dare_sources, dweb_in, dweb_text, dWebInit, dcheck_web, dcheck_copy, dcheck_line, dall_rows, dis_let, dis_end_let, dstates, dis_row_let]
def fn1 : List He.DefD := [dnumber_in, dnumber_with, dsettings_of, dcheck_some, dcheck_weights, dcheck_weighed, dby_line, dsums_in, dbest_with, dbest_sum, dworth, d_Lwell, d_Ldraw, d_Lnames, d_Lfree, d_Lblock, d_Lways_in, d_Llaid, d_Lweb, d_Ltext]
def fn2 : List He.DefD := [d_Llines, d_Linner, d_Ltuples, d_Lchoices, d_Ltable, d_Lrow, d_Lsame, d_Lloads, d_Ltotal, d_Ltry, d_Ldue, d_Lsmall_right, d_Lzigzag, d_Lkept_ways, d_Lgreat_right, dlaw]
def fn : List He.DefD := fn0 ++ fn1 ++ fn2
def fa0 : List He.Fa := [.glo "is_integer", .glo "is_between", .glo "is_name", .glo "are_beside", .glo "walk_from", .glo "is_closed", .glo "row_of", .glo "rows_in", .glo "are_sources", .glo "web_in", .glo "web_text", .glo "check_web", .glo "check_copy", .glo "check_line", .glo "all_rows", .glo "is_let", .glo "is_end_let", .glo "states", .glo "is_row_let", .glo "number_in", .glo "number_with", .glo "settings_of", .glo "check_some", .glo "check_weights", .glo "check_weighed"]
def fa1 : List He.Fa := [.glo "by_line", .glo "sums_in", .glo "best_with", .glo "best_sum", .glo "worth", .glo "_law_well", .glo "_law_draw", .glo "_law_names", .glo "_law_free", .glo "_law_block", .glo "_law_ways_in", .glo "_law_laid", .glo "_law_web", .glo "_law_text", .glo "_law_lines", .glo "_law_inner", .glo "_law_tuples", .glo "_law_choices", .glo "_law_table", .glo "_law_row", .glo "_law_same", .glo "_law_loads", .glo "_law_total", .glo "_law_try", .glo "_law_due", .glo "_law_small_right", .glo "_law_zigzag", .glo "_law_kept_ways", .glo "_law_great_right", .glo "law", .glo "Web", .glo "NoChoice"]
def fa2 : List He.Fa := [.free "len", .free "isinstance", .free "all", .free "any", .free "sum", .free "max", .free "min", .free "range", .free "zip", .free "tuple", .free "list", .free "set", .free "dict", .free "enumerate", .free "int", .free "str", .free "bool", .free "abs", .free "divmod"]
def fa3 : List He.Fa := [.int "MOST_COPIES" 40, .int "MOST_WEIGHT" 1000000000000, .str "LETTERS" "abcdefghijklmnopqrstuvwxyz", .cls "Web", .mkr "Web", .keep "NoChoice", .exm "NoChoice" "NoChoice" true, .noat "Web" "written", .noat "Web" "rows", .noat "Web" "heads", .noat "Web" "pairs", .noat "Web" "zigzag_rows"]
def fa : List He.Fa := fa0 ++ fa1 ++ fa2 ++ fa3
/-- an empty tuple of the written part -/
def tupE (K : PySem.W.Frag) (a : Addr) : Bool := match K.lookup a with
  | some ⟨.type c, _, .seq its _, _⟩ => decide (c = "tuple") && decide (its.size = 0)
  | _ => false
def noCh : List Value := [.type "ArithmeticError", .type "Exception", .type "BaseException", .type "object"]
/-- Web's instances, asked by isinstance -/
def insE (K : PySem.W.Frag) : Bool := decide (PySem.W.findIn K (.ref (He.ga K "Web")) "__class__" = some (some (.builtin "object.__class__"))) && (decide (PySem.W.specialIn K (.builtin "object.__class__") "__get__" = some (some (.builtin "getset_descriptor.__get__"))) && (decide (PySem.W.takesIn K (.builtin "object.__class__") = some true) && decide (PySem.W.mroIn K (He.ga K "Web") (.type "object") = some true)))
/-- more facts: the default of number_with, NoChoice's class, Web as a class -/
def ex (K : PySem.W.Frag) : Bool := (tupE K (He.dflAt ("number_with", none) 0 K) && (PySem.W.excIn K (He.ga K "NoChoice") noCh "ArithmeticError.__new__" && (decide (PySem.W.subIn K (.ref (He.ga K "NoChoice")) (.type "BaseException") = some true) && decide (PySem.W.typeIn K (.ref (He.ga K "NoChoice")) = some (.type "type"))))) && insE K
def tf : List He.Defn := [("_law_small_right", none)]
abbrev R : PySem.W.OpenRow := PySem.W.OpenLaw.row PySem.Challenge.rw_basetrees_k29_whole_worth_of_lines
end K29
set_option Elab.async false
set_option linter.all false
set_option maxRecDepth 100000
set_option maxHeartbeats 0
namespace K29
open PySem PySem.Spec PyProof.Rows L2
def nm0 : List PySem.Str := ["_wall", "WrongValue", "NoAnswer", "InvalidText", "InvalidName", "UnknownName", "NotAWeb", "InvalidWeights", "NoChoice", "LETTERS", "is_integer", "is_between", "is_name", "are_beside", "walk_from", "is_closed", "row_of", "rows_in", "MOST_COPIES", "MOST_WEIGHT", "are_sources", "web_in", "web_text", "Web", "check_web", "check_copy", "check_line", "all_rows", "is_let", "is_end_let"]
def nm1 : List PySem.Str := ["states", "is_row_let", "number_in", "number_with", "settings_of", "check_some", "check_weights", "check_weighed", "by_line", "sums_in", "best_with", "best_sum", "worth", "_law_well", "_law_draw", "_law_names", "_law_free", "_law_block", "_law_ways_in", "_law_laid", "_law_web", "_law_text", "_law_lines", "_law_inner", "_law_tuples", "_law_choices", "_law_table", "_law_row", "_law_same", "_law_loads"]
def nm2 : List PySem.Str := ["_law_total", "_law_try", "_law_due", "_law_small_right", "_law_zigzag", "_law_kept_ways", "_law_great_right"]
def names : List PySem.Str := nm0 ++ nm1 ++ nm2
abbrev hk : PySem.W.Hook := He.hookX 5 fa fn [] tf ex
def ob (s : PySem.W.SharedT) : He.AlX := He.obsX 5 fa fn [] tf ex (HandSHeadRun.getT s)
theorem ob_eq (s : PySem.W.SharedT) : ob s = hk.obs s.abs := He.obsX_eq (HandSHeadRun.getT_eq s)
theorem run (w : World) : HandSHeadRun.RunEq R (PySem.W.view R.prog [76]) hk ob 12000 names w := by
  intro os
  kernel_rfl
end K29
set_option Elab.async false
set_option linter.all false
set_option maxRecDepth 100000
set_option maxHeartbeats 4000000
/-! Rules that the layer lacks, part a: zip of any two of list and tuple, enumerate of a list or a tuple. -/
namespace G
open PySem PySem.Spec PyProof.Rows L2
/-- a list (false) or a tuple (true) -/
def Sq (b : Bool) (K : PySem.W.Frag) (H : Hp) (a : Addr) (xs : List V) : Prop := match b with
  | true => SqT K H a xs
  | false => SqL K H a xs
def isIter (b : Bool) (h : Heap) (it a : Addr) (i : Nat) : Prop := match b with
  | true => h.IsTupleIter it a i
  | false => h.IsListIter it a i
def isSeq (b : Bool) (h : Heap) (a : Addr) (its : Array Value) : Prop := match b with
  | true => h.IsTuple a its
  | false => h.IsList a its
def itObj (b : Bool) (a : Addr) : Obj := match b with
  | true => { cls := .type "tuple_iterator", data := .fields #[.ref a, .int 0 0] }
  | false => { cls := .type "list_iterator", data := .fields #[.ref a, .int 0 0] }
theorem isIter_new {b : Bool} {h : Heap} {it a : Addr} (e : h.get? it = some (itObj b a)) : isIter b h it a 0 := by
  cases b
  · exact ⟨_, e, rfl, rfl⟩
  · exact ⟨_, e, rfl, rfl⟩
theorem isIter_obj {b : Bool} {h : Heap} {it a : Addr} {i : Nat} (e : isIter b h it a i) : ∃ o, h.get? it = some o ∧ ∀ v, o.data ≠ .cell v := by
  cases b
  · obtain ⟨o, h1, _, h3⟩ := e
    exact ⟨o, h1, fun v q => by rw [h3] at q; cases q⟩
  · obtain ⟨o, h1, _, h3⟩ := e
    exact ⟨o, h1, fun v q => by rw [h3] at q; cases q⟩
theorem isIter_at {b : Bool} {h h' : Heap} {it a : Addr} {i : Nat} (e : isIter b h it a i) (k : ∀ o, h.get? it = some o → h'.get? it = some o) : isIter b h' it a i := by
  cases b
  · exact Heap.IsListIter.at e k
  · exact Heap.IsTupleIter.at e k
theorem begins (b : Bool) (a : Addr) (its : Array Value) : Begins (.ref a) (itObj b a) fun h => isSeq b h a its := by
  cases b
  · exact begins_list a its
  · exact begins_tuple a its
theorem draws {prog : Program} {w : World} {A : Around} (b : Bool) (hh : A.handled = none) (it a : Addr) (hne : a ≠ it) (its : Array Value) :
    Draws prog w A it [it, a] its.size (fun i v => its[i]? = some v) (fun i h => isIter b h it a i ∧ isSeq b h a its) := by
  cases b
  · exact Draws.list hh it a hne its
  · exact Draws.tuple hh it a hne its
section
variable {X : Cx} {pins : List (Addr × Obj)} {σ : L2.St} {H : Hp} {s : Shared} {a : Addr} {xs ys : List V}
theorem sq_of {b : Bool} (I : Inv X pins σ H s) (h : Sq b X.K H a xs) : ∃ its : List Value, Vals xs its ∧ isSeq b s.heap a its.toArray ∧ a < s.heap.objs.size := by
  cases b
  · obtain ⟨its, r, p, _⟩ := I.list h
    exact ⟨its, r, p.isList, p.lt⟩
  · obtain ⟨its, r, p, _⟩ := I.tuple h
    exact ⟨its, r, p, p.lt⟩
theorem sq_inj {b : Bool} (I : Inv X pins σ H s) (h : Sq b X.K H a xs) (h' : Sq b X.K H a ys) : xs = ys := by
  cases b
  · exact I.list_inj h h'
  · exact I.tuple_inj h h'
end
/-- zip of two such: each pair new -/
def ItzG (K : PySem.W.Frag) (b1 b2 : Bool) (a b : Addr) : It :=
  ⟨fun i H => ∃ (xs ys : List V) (x y : V), Sq b1 K H a xs ∧ Sq b2 K H b ys ∧ xs[i]? = some x ∧ ys[i]? = some y,
    fun i H v H' => ∃ T x y, v = .ref T ∧ H T = none ∧ H' = upd H T (.tup [x, y]) ∧ (∀ xs, Sq b1 K H a xs → xs[i]? = some x) ∧ ∀ ys, Sq b2 K H b ys → ys[i]? = some y,
    fun i H => ∃ xs ys : List V, Sq b1 K H a xs ∧ Sq b2 K H b ys ∧ i = min xs.length ys.length⟩
theorem zero_size {A : Around} (hd : A.handled = none) : A.in1.handled = none := hd
theorem turn_zipG {P : Program} {w : World} {K : PySem.W.Frag} {elts : List Expr} {kk : Nat} {tpos : Pos} {b1 b2 : Bool} {a b z TI TO i1 i2 : Addr} (D : ZipSep2 z TI TO i1 i2 [i1, a] [i2, b]) (na : a ≠ i1) (nb : b ≠ i2) (own : ∀ c ∈ ([z, TI, TO, i1, i2] : List Addr), c ≠ a ∧ c ≠ b) :
    Turn P w K (.Tuple elts kk tpos) (ItzG K b1 b2 a b) [z, TI, TO, i1, i2] z (fun i h => IsZip h z TI TO .none ∧ IsTupOf2 h TI (.ref i1) (.ref i2) ∧ (∃ x y, IsTupOf2 h TO x y) ∧ isIter b1 h i1 a i ∧ isIter b2 h i2 b i) where
  mem := by simp
  obj := fun i h st c hc => by
    obtain ⟨hz, hTI, ⟨x, y, hTO⟩, h1, h2⟩ := st
    have e' : c = z ∨ c = TI ∨ c = TO ∨ c = i1 ∨ c = i2 := by simpa using hc
    rcases e' with q | q | q | q | q
    · rw [q]; exact ⟨_, hz, fun v q => nomatch q⟩
    · rw [q]; exact ⟨_, hTI, fun v q => nomatch q⟩
    · rw [q]; exact ⟨_, hTO, fun v q => nomatch q⟩
    · rw [q]; exact isIter_obj h1
    · rw [q]; exact isIter_obj h2
  keep := fun i h h' st k => by
    obtain ⟨hz, hTI, ⟨x, y, hTO⟩, h1, h2⟩ := st
    exact ⟨k z (by simp) _ hz, k TI (by simp) _ hTI, ⟨x, y, k TO (by simp) _ hTO⟩, isIter_at h1 fun o q => k i1 (by simp) o q, isIter_at h2 fun o q => k i2 (by simp) o q⟩
  item := by
    intro X hP hw hK hc i pins s σ H E I hf st hg
    subst hP hw hK
    obtain ⟨hz, hTI, ⟨x0, y0, hTO⟩, h1, h2⟩ := st
    obtain ⟨xs, ys, x, y, hqx, hqy, hx, hy⟩ := hg
    obtain ⟨its, rv, p, _⟩ := sq_of I hqx
    obtain ⟨its2, rv2, p2, _⟩ := sq_of I hqy
    obtain ⟨u, hu, ru⟩ := rv.get hx
    obtain ⟨u2, hu2, ru2⟩ := rv2.get hy
    have hd := I.ok.hd hc
    have W := GoesN.zip2 (prog := X.prog) (w := X.w) (A := X.A) (elts := elts) (x1 := kk) (pos := tpos) D (draws b1 (zero_size hd) i1 a na its.toArray) (draws b2 (zero_size hd) i2 b nb its2.toArray)
    have hi : i < min its.toArray.size its2.toArray.size := by
      have q1 := (List.getElem?_eq_some_iff.mp hu).1
      have q2 := (List.getElem?_eq_some_iff.mp hu2).1
      simp only [List.size_toArray]; omega
    refine W.goes i s _ E hi ⟨hz, hTI, ⟨x0, y0, hTO⟩, ⟨h1, p⟩, ⟨h2, p2⟩⟩ fun v h' tk hY hst hk htk => ?_
    obtain ⟨T, v1, v2, ev, hT, e1, e2, hTup⟩ := hY
    obtain ⟨z', TI', TO', h1', h2'⟩ := hst
    have e1' : v1 = u := by
      have q : its.toArray[i]? = some v1 := e1
      rw [List.getElem?_toArray, hu] at q
      exact (Option.some.inj q).symm
    have e2' : v2 = u2 := by
      have q : its2.toArray[i]? = some v2 := e2
      rw [List.getElem?_toArray, hu2] at q
      exact (Option.some.inj q).symm
    subst ev e1' e2'
    have new : ObjOk X.prog X.w (upd H T (.tup [x, y])) h' T (.tup [x, y]) :=
      ⟨by show 2 ≤ sizeLine; decide, [v1, v2], .cons ru (.cons ru2 .nil), hTup⟩
    have I1 : Inv X pins σ (upd H T (.tup [x, y])) { s with heap := h', toks := tk } :=
      I.turnedNew (t' := tk) (ch := [z, TI, TO, i1, i2]) (fun c o hb q => hk c o (fun q' => hb (by
        have e' : c = z ∨ c = TO ∨ c = i1 ∨ c = i2 := by simpa using q'
        rcases e' with r | r | r | r <;> simp [r])) q) hf hT new
    refine ⟨.ref T, _, I1, rfl, ⟨T, x, y, rfl, I.hok.fresh hT, rfl, fun l hl => by rw [sq_inj I hl hqx]; exact hx, fun l hl => by rw [sq_inj I hl hqy]; exact hy⟩, ⟨z', TI', TO', h1'.1, h2'.1⟩, fun c hcm => ?_⟩
    have hlt : c < s.heap.objs.size := by
      have e' : c = z ∨ c = TI ∨ c = TO ∨ c = i1 ∨ c = i2 := by simpa using hcm
      rcases e' with q | q | q | q | q
      · rw [q]; exact Heap.lt_size hz
      · rw [q]; exact Heap.lt_size hTI
      · rw [q]; exact Heap.lt_size hTO
      · rw [q]; obtain ⟨o, e1, _⟩ := isIter_obj h1; exact Heap.lt_size e1
      · rw [q]; obtain ⟨o, e1, _⟩ := isIter_obj h2; exact Heap.lt_size e1
    rw [upd_ne (Nat.ne_of_lt (Nat.lt_of_lt_of_le hlt hT))]
    exact (hf c hcm).1
  done := by
    intro X hP hw hK hc i pins s σ H E I hf st hg
    subst hP hw hK
    obtain ⟨hz, hTI, ⟨x0, y0, hTO⟩, h1, h2⟩ := st
    obtain ⟨xs, ys, hqx, hqy, hend⟩ := hg
    obtain ⟨its, rv, p, _⟩ := sq_of I hqx
    obtain ⟨its2, rv2, p2, _⟩ := sq_of I hqy
    have l1 := rv.length
    have l2 := rv2.length
    have hd := I.ok.hd hc
    have W := GoesN.zip2 (prog := X.prog) (w := X.w) (A := X.A) (elts := elts) (x1 := kk) (pos := tpos) D (draws b1 (zero_size hd) i1 a na its.toArray) (draws b2 (zero_size hd) i2 b nb its2.toArray)
    have hi : i = min its.toArray.size its2.toArray.size := by
      simp only [List.size_toArray]; omega
    subst hi
    refine wpAny_mono (W.stops s (fun s1 => Inv X pins σ H s1) E ⟨hz, hTI, ⟨x0, y0, hTO⟩, ⟨h1, p⟩, ⟨h2, p2⟩⟩ fun h' tk hk htk => ?_) (fun r s1 q => q) fun _ _ e => e
    exact I.turnedL (t' := tk) (ch := [z, TI, TO, i1, i2]) (fun c o hb q => hk c o (fun q' => hb (by
      have e' : c = z ∨ c = TO ∨ c = i1 ∨ c = i2 := by simpa using q'
      rcases e' with r | r | r | r <;> simp [r])) q) hf
  self := fun A i s Q E st h => wpAny_pyIter_zip st.1 h
def iZipG (K : PySem.W.Frag) (b1 b2 : Bool) (ta : TA) : TI := fun σ H R => ta σ H fun vs H1 => ∃ a b xs ys, vs = [.ref a, .ref b] ∧ Sq b1 K H1 a xs ∧ Sq b2 K H1 b ys ∧ R (ItzG K b1 b2 a b) H1
theorem pi_zipG {X : Cx} {e e2 : Expr} {ta : TA} {p pos tpos : Pos} {elts : List Expr} {kk : Nat} (b1 b2 : Bool) (hg : Gl X "zip") (hm : X.mg "zip" = none) (ha : PA X [e, e2] ta)
    (hs : starEach [e, e2] X.env = (false, eval e X.env) :: starEach [e2] X.env := by rfl) (hpl : (backTo pos (starEach [e2] X.env)).any (·.1) = false := by rfl) :
    PI X (.Tuple elts kk tpos) (.Call (.Name "zip" p) [e, e2] [] pos) (iZipG X.K b1 b2 ta) := by
  refine ⟨fun pins s σ H R I h => ?_⟩
  refine Call_ (ld_blt I hg hm PyProof.Rows.boot_zip (PyProof.Rows.callWith_type1 (thn (ha.run pos pins s σ H _ I h) fun us s1 ⟨vs, H1, I1, r1, q1⟩ => ?_) hs hpl))
  obtain ⟨a, b, xs, ys, ex, hqx, hqy, q⟩ := q1
  subst ex
  cases r1 with
  | cons r rr =>
    cases rr with
    | cons r' rr =>
      cases rr
      cases r
      cases r'
      obtain ⟨its, rv, p1, l1⟩ := sq_of I1 hqx
      obtain ⟨its2, rv2, p2, l2⟩ := sq_of I1 hqy
      have fresh5 : ∀ c, c ∈ [s1.heap.objs.size + 4, s1.heap.objs.size + 2, s1.heap.objs.size + 3, s1.heap.objs.size, s1.heap.objs.size + 1] → s1.heap.objs.size ≤ c := fun c hcm => by
        have e' : c = s1.heap.objs.size + 4 ∨ c = s1.heap.objs.size + 2 ∨ c = s1.heap.objs.size + 3 ∨ c = s1.heap.objs.size ∨ c = s1.heap.objs.size + 1 := by simpa using hcm
        rcases e' with z | z | z | z | z
        · rw [z]; exact Nat.le_add_right _ _
        · rw [z]; exact Nat.le_add_right _ _
        · rw [z]; exact Nat.le_add_right _ _
        · rw [z]; exact Nat.le_refl _
        · rw [z]; exact Nat.le_add_right _ _
      refine zip_begins2 (begins b1 a its.toArray) (begins b2 b its2.toArray) p1 p2 fun h' hz hTI hTO h1 h2 hsz hk => wpAny_pyIter_zip hz ?_
      have I2 : Inv X pins σ H1 { s1 with heap := h' } := I1.kept (t' := s1.toks) hk
      have S : ZipSep2 (s1.heap.objs.size + 4) (s1.heap.objs.size + 2) (s1.heap.objs.size + 3) s1.heap.objs.size (s1.heap.objs.size + 1) [s1.heap.objs.size, a] [s1.heap.objs.size + 1, b] :=
        zip_sep2 (fun c hc => by rw [List.mem_singleton.mp hc]; exact l1) (fun c hc => by rw [List.mem_singleton.mp hc]; exact l2)
      refine ⟨s1.heap.objs.size + 4, [s1.heap.objs.size + 4, s1.heap.objs.size + 2, s1.heap.objs.size + 3, s1.heap.objs.size, s1.heap.objs.size + 1], _, _, H1, rfl, I2,
        turn_zipG (b1 := b1) (b2 := b2) S (Nat.ne_of_lt l1) (Nat.ne_of_lt (Nat.lt_succ_of_lt l2)) (fun c hc => ⟨fun z => ?_, fun z => ?_⟩), ⟨hz, hTI, ⟨_, _, hTO⟩, isIter_new h1, isIter_new h2⟩, fun c hc => I1.fpOk (fresh5 c hc) (I1.hok.fresh (fresh5 c hc)), q⟩
      · have := fresh5 c hc
        rw [z] at this
        exact absurd (Nat.lt_of_lt_of_le l1 this) (Nat.lt_irrefl _)
      · have := fresh5 c hc
        rw [z] at this
        exact absurd (Nat.lt_of_lt_of_le l2 this) (Nat.lt_irrefl _)
theorem walk_zipG {K : PySem.W.Frag} {b1 b2 : Bool} {a b : Addr} {xs ys : List V} {n : Nat} (hn : n = min xs.length ys.length) : Walk (ItzG K b1 b2 a b) n (fun H => Sq b1 K H a xs ∧ Sq b2 K H b ys) (YPair (fun i => xs[i]?) (fun i => ys[i]?)) := by
  subst hn
  refine ⟨fun i _ hi q => ?_, fun _ q => ⟨xs, ys, q.1, q.2, rfl⟩, fun i H v H' _ q y => ?_⟩
  · have h1 : i < xs.length := by omega
    have h2 : i < ys.length := by omega
    exact ⟨xs, ys, xs[i], ys[i], q.1, q.2, by simp [h1], by simp [h2]⟩
  · obtain ⟨T, x, z, h1, h2, h3, h4, h5⟩ := y
    exact ⟨T, x, z, h1, h2, h3, h4 xs q.1, h5 ys q.2⟩
/-! ### enumerate -/
def IteG (K : PySem.W.Frag) (b : Bool) (a : Addr) : It :=
  ⟨fun i H => ∃ (xs : List V) (x : V), Sq b K H a xs ∧ xs[i]? = some x,
    fun i H v H' => ∃ T x, v = .ref T ∧ H T = none ∧ H' = upd H T (.tup [.int (i : Nat), x]) ∧ (∀ xs, Sq b K H a xs → xs[i]? = some x),
    fun i H => ∃ xs : List V, Sq b K H a xs ∧ i = xs.length⟩
theorem turn_enumG {P : Program} {w : World} {K : PySem.W.Frag} {elts : List Expr} {kk : Nat} {tpos : Pos} {b : Bool} {a e it : Addr} (hne : e ≠ it) (na : a ≠ it) (nae : e ≠ a) :
    Turn P w K (.Tuple elts kk tpos) (IteG K b a) [e, it] e (fun i h => (∃ old, IsEnum h e it (0 + (i : Int)) old) ∧ isIter b h it a i) where
  mem := by simp
  obj := fun i h st c hc => by
    obtain ⟨⟨old, he⟩, h1⟩ := st
    have e' : c = e ∨ c = it := by simpa using hc
    rcases e' with q | q
    · rw [q]; exact ⟨_, he, fun v q => nomatch q⟩
    · rw [q]; exact isIter_obj h1
  keep := fun i h h' st k => by
    obtain ⟨⟨old, he⟩, h1⟩ := st
    exact ⟨⟨old, k e (by simp) _ he⟩, isIter_at h1 fun o q => k it (by simp) o q⟩
  item := by
    intro X hP hw hK hc i pins s σ H E I hf st hg
    subst hP hw hK
    obtain ⟨⟨old, he⟩, h1⟩ := st
    obtain ⟨xs, x, hqx, hx⟩ := hg
    obtain ⟨its, rv, p, _⟩ := sq_of I hqx
    obtain ⟨u, hu, ru⟩ := rv.get hx
    have hd := I.ok.hd hc
    have W := GoesN.enumFrom (prog := X.prog) (w := X.w) (A := X.A) (elts := elts) (x1 := kk) (pos := tpos) 0 (draws b (zero_size hd) it a na its.toArray) e hne (by simp [hne, nae]) (by simp)
    have hi : i < its.toArray.size := by
      have q1 := (List.getElem?_eq_some_iff.mp hu).1
      simp only [List.size_toArray]; omega
    refine W.goes i s _ E hi ⟨⟨old, he⟩, ⟨h1, p⟩⟩ fun v h' tk hY hst hk htk => ?_
    obtain ⟨T, t, v1, ev, hT, e1, hTup⟩ := hY
    obtain ⟨he', h1'⟩ := hst
    have e1' : v1 = u := by
      have q : its.toArray[i]? = some v1 := e1
      rw [List.getElem?_toArray, hu] at q
      exact (Option.some.inj q).symm
    subst ev e1'
    have ei : (0 : Int) + (i : Int) = (i : Int) := Int.zero_add _
    rw [ei] at hTup
    have new : ObjOk X.prog X.w (upd H T (.tup [.int (i : Nat), x])) h' T (.tup [.int (i : Nat), x]) :=
      ⟨by show 2 ≤ sizeLine; decide, [.int (i : Nat) t, v1], .cons ⟨t, rfl⟩ (.cons ru .nil), hTup⟩
    have I1 : Inv X pins σ (upd H T (.tup [.int (i : Nat), x])) { s with heap := h', toks := tk } :=
      I.turnedNew (t' := tk) (ch := [e, it]) (fun c o hb q => hk c o hb q) hf hT new
    refine ⟨.ref T, _, I1, rfl, ⟨T, x, rfl, I.hok.fresh hT, rfl, fun l hl => by rw [sq_inj I hl hqx]; exact hx⟩, ⟨he', h1'.1⟩, fun c hcm => ?_⟩
    have hlt : c < s.heap.objs.size := by
      have e' : c = e ∨ c = it := by simpa using hcm
      rcases e' with q | q
      · rw [q]; exact Heap.lt_size he
      · rw [q]; obtain ⟨o, e1, _⟩ := isIter_obj h1; exact Heap.lt_size e1
    rw [upd_ne (Nat.ne_of_lt (Nat.lt_of_lt_of_le hlt hT))]
    exact (hf c hcm).1
  done := by
    intro X hP hw hK hc i pins s σ H E I hf st hg
    subst hP hw hK
    obtain ⟨⟨old, he⟩, h1⟩ := st
    obtain ⟨xs, hqx, hend⟩ := hg
    obtain ⟨its, rv, p, _⟩ := sq_of I hqx
    have l1 := rv.length
    have hd := I.ok.hd hc
    have W := GoesN.enumFrom (prog := X.prog) (w := X.w) (A := X.A) (elts := elts) (x1 := kk) (pos := tpos) 0 (draws b (zero_size hd) it a na its.toArray) e hne (by simp [hne, nae]) (by simp)
    have hi : i = its.toArray.size := by
      simp only [List.size_toArray]; omega
    subst hi
    refine wpAny_mono (W.stops s (fun s1 => Inv X pins σ H s1) E ⟨⟨old, he⟩, ⟨h1, p⟩⟩ fun h' tk hk htk => ?_) (fun r s1 q => q) fun _ _ e => e
    exact I.turnedL (t' := tk) (ch := [e, it]) (fun c o hb q => hk c o hb q) hf
  self := fun A i s Q E st h => let ⟨⟨_, he⟩, _⟩ := st; wpAny_pyIter_enum he h
def iEnumG (K : PySem.W.Frag) (b : Bool) (ta : TA) : TI := fun σ H R => ta σ H fun vs H1 => ∃ a xs, vs = [.ref a] ∧ Sq b K H1 a xs ∧ R (IteG K b a) H1
theorem walk_enumG {K : PySem.W.Frag} {b : Bool} {a : Addr} {xs : List V} : Walk (IteG K b a) xs.length (fun H => Sq b K H a xs) (YPair (fun i => some (.int (i : Nat))) (fun i => xs[i]?)) := by
  refine ⟨fun i _ hi q => ⟨xs, xs[i], q, by simp [hi]⟩, fun _ q => ⟨xs, q, rfl⟩, fun i H v H' _ q y => ?_⟩
  obtain ⟨T, x, h1, h2, h3, h4⟩ := y
  exact ⟨T, .int (i : Nat), x, h1, h2, h3, rfl, h4 xs q⟩
end G
set_option Elab.async false
set_option linter.all false
set_option maxRecDepth 100000
set_option maxHeartbeats 4000000
/-! Rules that the layer lacks, part b: data with a Lean type: ==, in, index, count. -/
namespace G
open PySem PySem.Spec PyProof.Rows L2 PySem.W
section
variable {α : Type} [DecidableEq α] [Datum α]
def isTupD : PyData → Bool
  | .tuple _ => true
  | _ => false
mutual
/-- data that is told of: a tuple whose items are not all tuples stands itself in the heap (it may be a key) -/
inductive Dx (K : PySem.W.Frag) (H : Hp) : V → PyData → Prop
  | non : Dx K H .non .none
  | bl (b : Bool) : Dx K H (.bl b) (.bool b)
  | int (i : Int) : Dx K H (.int i) (.int i)
  | str (x : Str) : Dx K H (.str x) (.str x)
  | lst {a : Addr} {vs : List V} {ds : List PyData} (hs : SqL K H a vs) (ha : DxAll K H vs ds) : Dx K H (.ref a) (.list ds)
  | tup {a : Addr} {vs : List V} {ds : List PyData} (hs : SqT K H a vs) (hx : ds.all isTupD = true ∨ H a = some (.tup vs)) (ha : DxAll K H vs ds) : Dx K H (.ref a) (.tuple ds)
inductive DxAll (K : PySem.W.Frag) (H : Hp) : List V → List PyData → Prop
  | nil : DxAll K H [] []
  | cons {v : V} {vs : List V} {d : PyData} {ds : List PyData} (h : Dx K H v d) (t : DxAll K H vs ds) : DxAll K H (v :: vs) (d :: ds)
end
mutual
theorem Dx.dp {K : PySem.W.Frag} {H : Hp} : ∀ {d : PyData} {v : V}, Dx K H v d → Dp K H v d
  | _, _, .non => .non
  | _, _, .bl b => .bl b
  | _, _, .int i => .int i
  | _, _, .str x => .str x
  | _, _, .lst hs ha => .lst hs (DxAll.dp ha)
  | _, _, .tup hs _ ha => .tup hs (DxAll.dp ha)
theorem DxAll.dp {K : PySem.W.Frag} {H : Hp} : ∀ {ds : List PyData} {vs : List V}, DxAll K H vs ds → DpAll K H vs ds
  | _, _, .nil => .nil
  | _, _, .cons h1 h2 => .cons (Dx.dp h1) (DxAll.dp h2)
end
/-- the value v holds the datum x -/
def Rp (K : PySem.W.Frag) (H : Hp) (v : V) (x : α) : Prop := Dx K H v (Datum.toD x)
def RpA (K : PySem.W.Frag) (H : Hp) (vs : List V) (xs : List α) : Prop := DxAll K H vs (xs.map Datum.toD)
end
section
variable {α β : Type} [DecidableEq α] [Datum α] [DecidableEq β] [Datum β] {K : PySem.W.Frag} {H H' : Hp}
theorem sameT (e : Same H H') {a : Addr} {xs : List V} (h : SqT K H a xs) : SqT K H' a xs := by
  rcases h with (h | ⟨o, h⟩) | h
  · exact .inl (.inl (e _ _ h))
  · exact .inl (.inr ⟨o, e _ _ h⟩)
  · exact .inr h
mutual
theorem Dx.same (e : Same H H') : ∀ {d : PyData} {v : V}, Dx K H v d → Dx K H' v d
  | _, _, .non => .non
  | _, _, .bl b => .bl b
  | _, _, .int i => .int i
  | _, _, .str x => .str x
  | _, _, .lst hs ha => .lst (e.seq hs) (DxAll.same e ha)
  | _, _, .tup hs hx ha => .tup (sameT e hs) (hx.imp (fun z => z) fun z => e _ _ z) (DxAll.same e ha)
theorem DxAll.same (e : Same H H') : ∀ {ds : List PyData} {vs : List V}, DxAll K H vs ds → DxAll K H' vs ds
  | _, _, .nil => .nil
  | _, _, .cons h1 h2 => .cons (Dx.same e h1) (DxAll.same e h2)
end
theorem Rp.same {v : V} {x : α} (e : Same H H') (h : Rp K H v x) : Rp K H' v x := Dx.same e h
theorem RpA.same {vs : List V} {xs : List α} (e : Same H H') (h : RpA K H vs xs) : RpA K H' vs xs := DxAll.same e h
/-! how it is known -/
theorem rp_int (i : Int) : Rp K H (.int i) i := Dx.int i
theorem rp_bl (b : Bool) : Rp K H (.bl b) b := Dx.bl b
theorem rp_str (x : Str) : Rp K H (.str x) x := Dx.str x
theorem rp_unit : Rp K H .non () := Dx.non
theorem rp_lst {a : Addr} {vs : List V} {xs : List α} (h : SqL K H a vs) (r : RpA K H vs xs) : Rp K H (.ref a) xs := Dx.lst h r
theorem rp_tup {a : Addr} {vs : List V} {xs : List α} (h : H a = some (.tup vs)) (r : RpA K H vs xs) : Rp K H (.ref a) (Tup.mk xs) := Dx.tup (SqT.of h) (.inr h) r
/-- a tuple of tuples (or the empty one) may be any that is read -/
theorem rp_tupT {a : Addr} {vs : List V} {xs : List α} (h : SqT K H a vs) (ht : (xs.map Datum.toD).all isTupD = true) (r : RpA K H vs xs) : Rp K H (.ref a) (Tup.mk xs) := Dx.tup h (.inl ht) r
theorem rp_pair {a : Addr} {v w : V} {x : α} {y : β} (h : H a = some (.tup [v, w])) (r1 : Rp K H v x) (r2 : Rp K H w y) : Rp K H (.ref a) (x, y) := Dx.tup (SqT.of h) (.inr h) (.cons r1 (.cons r2 .nil))
theorem int_rp {v : V} {i : Int} (h : Rp K H v i) : v = .int i := by cases h; rfl
theorem bl_rp {v : V} {b : Bool} (h : Rp K H v b) : v = .bl b := by cases h; rfl
theorem str_rp {v : V} {x : Str} (h : Rp K H v x) : v = .str x := by cases h; rfl
theorem unit_rp {v : V} (h : Rp K H v ()) : v = .non := by cases h; rfl
theorem lst_rp {v : V} {xs : List α} (h : Rp K H v xs) : ∃ a vs, v = .ref a ∧ SqL K H a vs ∧ RpA K H vs xs := by
  cases h with
  | lst hs ha => exact ⟨_, _, rfl, hs, ha⟩
theorem tup_rp {v : V} {xs : List α} (h : Rp K H v (Tup.mk xs)) : ∃ a vs, v = .ref a ∧ SqT K H a vs ∧ RpA K H vs xs := by
  cases h with
  | tup hs _ ha => exact ⟨_, _, rfl, hs, ha⟩
theorem pair_rp {v : V} {x : α} {y : β} (h : Rp K H v (x, y)) : ∃ a w z, v = .ref a ∧ SqT K H a [w, z] ∧ Rp K H w x ∧ Rp K H z y := by
  cases h with
  | tup hs _ ha =>
    cases ha with
    | cons h1 h2 =>
      cases h2 with
      | cons h3 h4 =>
        cases h4
        exact ⟨_, _, _, rfl, hs, h1, h3⟩
/-- a pair of texts stands itself in the heap -/
theorem key_rp {v : V} {x y : Str} (h : Rp K H v (x, y)) : ∃ a, v = .ref a ∧ H a = some (.tup [.str x, .str y]) := by
  cases h with
  | tup hs hx ha =>
    cases ha with
    | cons h1 h2 =>
      cases h2 with
      | cons h3 h4 =>
        cases h4
        cases h1
        cases h3
        rcases hx with z | z
        · cases z
        · exact ⟨_, rfl, z⟩
/-! item by item -/
theorem RpA.nil : RpA K H [] ([] : List α) := DxAll.nil
theorem RpA.cons {v : V} {vs : List V} {x : α} {xs : List α} (h : Rp K H v x) (t : RpA K H vs xs) : RpA K H (v :: vs) (x :: xs) := DxAll.cons h t
theorem RpA.one {v : V} {x : α} (h : Rp K H v x) : RpA K H [v] [x] := RpA.cons h RpA.nil
theorem RpA.head {v : V} {vs : List V} {x : α} {xs : List α} (h : RpA K H (v :: vs) (x :: xs)) : Rp K H v x ∧ RpA K H vs xs := by
  cases h with
  | cons h1 h2 => exact ⟨h1, h2⟩
theorem RpA.length : ∀ {vs : List V} {xs : List α}, RpA K H vs xs → vs.length = xs.length
  | [], [], _ => rfl
  | [], _ :: _, h => by cases h
  | _ :: _, [], h => by cases h
  | _ :: _, _ :: _, h => by rw [List.length_cons, List.length_cons, RpA.length h.head.2]
theorem RpA.append : ∀ {vs : List V} {xs : List α} {ws : List V} {ys : List α}, RpA K H vs xs → RpA K H ws ys → RpA K H (vs ++ ws) (xs ++ ys)
  | [], [], _, _, _, h => h
  | [], _ :: _, _, _, h, _ => by cases h
  | _ :: _, [], _, _, h, _ => by cases h
  | _ :: _, _ :: _, _, _, h, t => .cons h.head.1 (RpA.append h.head.2 t)
theorem RpA.snoc {vs : List V} {xs : List α} {v : V} {x : α} (h : RpA K H vs xs) (r : Rp K H v x) : RpA K H (vs ++ [v]) (xs ++ [x]) := h.append (.one r)
theorem RpA.at_ : ∀ {vs : List V} {xs : List α}, RpA K H vs xs → ∀ {i : Nat} {v : V}, vs[i]? = some v → ∃ x, xs[i]? = some x ∧ Rp K H v x
  | [], _, _, _, _, e => by simp at e
  | _ :: _, [], h, _, _, _ => by cases h
  | v :: vs, x :: xs, h, 0, w, e => by
    simp only [List.getElem?_cons_zero, Option.some.injEq] at e
    subst e
    exact ⟨x, rfl, h.head.1⟩
  | v :: vs, x :: xs, h, i + 1, w, e => by
    simp only [List.getElem?_cons_succ] at e ⊢
    exact RpA.at_ h.head.2 e
theorem RpA.at' : ∀ {vs : List V} {xs : List α}, RpA K H vs xs → ∀ {i : Nat} {x : α}, xs[i]? = some x → ∃ v, vs[i]? = some v ∧ Rp K H v x
  | _, [], _, _, _, e => by simp at e
  | [], _ :: _, h, _, _, _ => by cases h
  | v :: vs, x :: xs, h, 0, w, e => by
    simp only [List.getElem?_cons_zero, Option.some.injEq] at e
    subst e
    exact ⟨v, rfl, h.head.1⟩
  | v :: vs, x :: xs, h, i + 1, w, e => by
    simp only [List.getElem?_cons_succ] at e ⊢
    exact RpA.at' h.head.2 e
theorem RpA.take : ∀ {vs : List V} {xs : List α}, RpA K H vs xs → ∀ n : Nat, RpA K H (vs.take n) (xs.take n)
  | _, _, _, 0 => by rw [List.take_zero, List.take_zero]; exact RpA.nil
  | [], [], _, _ + 1 => RpA.nil
  | [], _ :: _, h, _ => by cases h
  | _ :: _, [], h, _ => by cases h
  | _ :: _, _ :: _, h, n + 1 => .cons h.head.1 (RpA.take h.head.2 n)
theorem RpA.drop : ∀ {vs : List V} {xs : List α}, RpA K H vs xs → ∀ n : Nat, RpA K H (vs.drop n) (xs.drop n)
  | _, _, h, 0 => h
  | [], [], _, _ + 1 => RpA.nil
  | [], _ :: _, h, _ => by cases h
  | _ :: _, [], h, _ => by cases h
  | _ :: _, _ :: _, h, n + 1 => RpA.drop h.head.2 n
theorem RpA.reverse : ∀ {vs : List V} {xs : List α}, RpA K H vs xs → RpA K H vs.reverse xs.reverse
  | [], [], _ => RpA.nil
  | [], _ :: _, h => by cases h
  | _ :: _, [], h => by cases h
  | _ :: _, _ :: _, h => by rw [List.reverse_cons, List.reverse_cons]; exact (RpA.reverse h.head.2).snoc h.head.1
theorem RpA.eraseIdx : ∀ {vs : List V} {xs : List α}, RpA K H vs xs → ∀ n : Nat, RpA K H (vs.eraseIdx n) (xs.eraseIdx n)
  | [], [], _, _ => RpA.nil
  | [], _ :: _, h, _ => by cases h
  | _ :: _, [], h, _ => by cases h
  | _ :: _, _ :: _, h, 0 => h.head.2
  | _ :: _, _ :: _, h, n + 1 => .cons h.head.1 (RpA.eraseIdx h.head.2 n)
theorem ints_rp : ∀ {vs : List V} {ns : List Int}, RpA K H vs ns → vs = ns.map V.int
  | [], [], _ => rfl
  | [], _ :: _, h => by cases h
  | _ :: _, [], h => by cases h
  | _ :: _, _ :: _, h => by rw [int_rp h.head.1, ints_rp h.head.2]; rfl
theorem bls_rp : ∀ {vs : List V} {ns : List Bool}, RpA K H vs ns → vs = ns.map V.bl
  | [], [], _ => rfl
  | [], _ :: _, h => by cases h
  | _ :: _, [], h => by cases h
  | _ :: _, _ :: _, h => by rw [bl_rp h.head.1, bls_rp h.head.2]; rfl
theorem strs_rp : ∀ {vs : List V} {ns : List Str}, RpA K H vs ns → vs = ns.map V.str
  | [], [], _ => rfl
  | [], _ :: _, h => by cases h
  | _ :: _, [], h => by cases h
  | _ :: _, _ :: _, h => by rw [str_rp h.head.1, strs_rp h.head.2]; rfl
theorem rp_ints : ∀ (ns : List Int), RpA K H (ns.map V.int) ns
  | [] => RpA.nil
  | n :: ns => .cons (rp_int n) (rp_ints ns)
theorem rp_bls : ∀ (ns : List Bool), RpA K H (ns.map V.bl) ns
  | [] => RpA.nil
  | n :: ns => .cons (rp_bl n) (rp_bls ns)
theorem rp_strs : ∀ (ns : List Str), RpA K H (ns.map V.str) ns
  | [] => RpA.nil
  | n :: ns => .cons (rp_str n) (rp_strs ns)
end
/-! ### rules -/
section
variable {X : Cx} {α : Type} [DecidableEq α] [Datum α]
theorem Rp.holds {pins : List (Addr × Obj)} {σ : L2.St} {H : Hp} {s : Shared} (I : Inv X pins σ H s) {v : V} {x : α} {u : Value} (h : Rp X.K H v x) (r : RelV v u) : Holds s.heap u x := Dp.reads I _ v u h.dp r
theorem RpA.holds {pins : List (Addr × Obj)} {σ : L2.St} {H : Hp} {s : Shared} (I : Inv X pins σ H s) {vs : List V} {xs : List α} {us : List Value} (h : RpA X.K H vs xs) (r : Vals vs us) : HoldAll s.heap us xs := Dp.readsAll I _ vs us h.dp r
def rEqT (K : PySem.W.Frag) (α : Type) [DecidableEq α] [Datum α] : R2 := fun x y H Q => ∃ a b : α, Rp K H x a ∧ Rp K H y b ∧ Q (.bl (decide (a = b))) H
def rNeT (K : PySem.W.Frag) (α : Type) [DecidableEq α] [Datum α] : R2 := fun x y H Q => ∃ a b : α, Rp K H x a ∧ Rp K H y b ∧ Q (.bl (decide (a ≠ b))) H
def rInT (K : PySem.W.Frag) (α : Type) [DecidableEq α] [Datum α] : R2 := fun x y H Q => ∃ (a : α) (bs : List α), Rp K H x a ∧ (Rp K H y bs ∨ Rp K H y (Tup.mk bs)) ∧ Q (.bl (decide (a ∈ bs))) H
def rNotInT (K : PySem.W.Frag) (α : Type) [DecidableEq α] [Datum α] : R2 := fun x y H Q => ∃ (a : α) (bs : List α), Rp K H x a ∧ (Rp K H y bs ∨ Rp K H y (Tup.mk bs)) ∧ Q (.bl (decide (a ∉ bs))) H
theorem op_eqT (α : Type) [DecidableEq α] [Datum α] (hu : X.A.units + 64 < cLine) (hd : Datum.depth α ≤ 60 := by decide) : OpR X (compareOp .Eq) (rEqT X.K α) := by
  intro pins s σ H x y v u Q I rx ry h
  obtain ⟨a, b, ha, hb, q⟩ := h
  exact eq_datum (ha.holds I rx) (hb.holds I ry) (by omega) ⟨.bl _, H, I, rfl, q⟩
theorem op_neT (α : Type) [DecidableEq α] [Datum α] (hu : X.A.units + 64 < cLine) (hd : Datum.depth α ≤ 60 := by decide) : OpR X (compareOp .NotEq) (rNeT X.K α) := by
  intro pins s σ H x y v u Q I rx ry h
  obtain ⟨a, b, ha, hb, q⟩ := h
  exact ne_datum (ha.holds I rx) (hb.holds I ry) (by omega) ⟨.bl _, H, I, rfl, q⟩
theorem op_inT (α : Type) [DecidableEq α] [Datum α] (hu : X.A.units + 64 < cLine) (hd : Datum.depth α ≤ 60 := by decide) : OpR X (compareOp .In) (rInT X.K α) := by
  intro pins s σ H x y v u Q I rx ry h
  obtain ⟨a, bs, ha, hb, q⟩ := h
  rcases hb with hb | hb
  · obtain ⟨p, vs, rfl, hs, hr⟩ := lst_rp hb
    cases ry
    obtain ⟨its, rv, pl, _⟩ := I.list hs
    exact in_list_datum pl.isList (by simpa using hr.holds I rv) (ha.holds I rx) (by omega) ⟨.bl _, H, I, rfl, q⟩
  · obtain ⟨p, vs, rfl, hs, hr⟩ := tup_rp hb
    cases ry
    obtain ⟨its, rv, pl, _⟩ := I.tuple hs
    exact in_tuple_datum (l := p) (vs := its.toArray) pl (by simpa using hr.holds I rv) (ha.holds I rx) (by omega) ⟨.bl _, H, I, rfl, q⟩
theorem op_notInT (α : Type) [DecidableEq α] [Datum α] (hu : X.A.units + 64 < cLine) (hd : Datum.depth α ≤ 60 := by decide) : OpR X (compareOp .NotIn) (rNotInT X.K α) := by
  intro pins s σ H x y v u Q I rx ry h
  obtain ⟨a, bs, ha, hb, q⟩ := h
  rcases hb with hb | hb
  · obtain ⟨p, vs, rfl, hs, hr⟩ := lst_rp hb
    cases ry
    obtain ⟨its, rv, pl, _⟩ := I.list hs
    exact notIn_list_datum pl.isList (by simpa using hr.holds I rv) (ha.holds I rx) (by omega) ⟨.bl _, H, I, rfl, q⟩
  · obtain ⟨p, vs, rfl, hs, hr⟩ := tup_rp hb
    cases ry
    obtain ⟨its, rv, pl, _⟩ := I.tuple hs
    exact notIn_tuple_datum (l := p) (vs := its.toArray) pl (by simpa using hr.holds I rv) (ha.holds I rx) (by omega) ⟨.bl _, H, I, rfl, q⟩
/-- l.index(x), x in l -/
def rIndexT (K : PySem.W.Frag) (α : Type) [DecidableEq α] [Datum α] : V → List V → Hp → VK → Prop := fun x xs H Q => ∃ (y : V) (a : α) (bs : List α), xs = [y] ∧ Rp K H x bs ∧ Rp K H y a ∧ bs.length ≤ sizeLine ∧ a ∈ bs ∧ Q (.int (bs.idxOf a : Nat)) H
theorem mt_indexT (α : Type) [DecidableEq α] [Datum α] (hu : X.A.units + 64 < cLine) (hd : Datum.depth α ≤ 60 := by decide) : MtR X "list.index" (rIndexT X.K α) := by
  intro pins s σ H x xs v us Q I rx rxs h
  obtain ⟨y, a, bs, rfl, hb, ha, hz, hm, q⟩ := h
  cases rxs with
  | cons ry rt =>
    cases rt
    obtain ⟨p, vs, rfl, hs, hr⟩ := lst_rp hb
    cases rx
    obtain ⟨its, rv, pl, _⟩ := I.list hs
    exact index_list_datum pl.isList (hr.holds I rv) (ha.holds I ry) (by omega) hz hm ⟨.int _, H, I.tok _, ⟨_, rfl⟩, q⟩
/-- t.index(x), x in t -/
def rIndexU (K : PySem.W.Frag) (α : Type) [DecidableEq α] [Datum α] : V → List V → Hp → VK → Prop := fun x xs H Q => ∃ (y : V) (a : α) (bs : List α), xs = [y] ∧ Rp K H x (Tup.mk bs) ∧ Rp K H y a ∧ a ∈ bs ∧ Q (.int (bs.idxOf a : Nat)) H
theorem mt_indexU (α : Type) [DecidableEq α] [Datum α] (hu : X.A.units + 64 < cLine) (hd : Datum.depth α ≤ 60 := by decide) : MtR X "tuple.index" (rIndexU X.K α) := by
  intro pins s σ H x xs v us Q I rx rxs h
  obtain ⟨y, a, bs, rfl, hb, ha, hm, q⟩ := h
  cases rxs with
  | cons ry rt =>
    cases rt
    obtain ⟨p, vs, rfl, hs, hr⟩ := tup_rp hb
    cases rx
    obtain ⟨its, rv, pl, _⟩ := I.tuple hs
    exact index_tuple_datum (l := p) (vs := its) pl (hr.holds I rv) (ha.holds I ry) (by omega) hm ⟨.int _, H, I.tok _, ⟨_, rfl⟩, q⟩
/-- l.count(x) -/
def rCountT (K : PySem.W.Frag) (α : Type) [DecidableEq α] [Datum α] : V → List V → Hp → VK → Prop := fun x xs H Q => ∃ (y : V) (a : α) (bs : List α), xs = [y] ∧ Rp K H x bs ∧ Rp K H y a ∧ Q (.int (bs.countP (fun y => decide (y = a)) : Nat)) H
theorem mt_countT (α : Type) [DecidableEq α] [Datum α] (hu : X.A.units + 64 < cLine) (hd : Datum.depth α ≤ 60 := by decide) : MtR X "list.count" (rCountT X.K α) := by
  intro pins s σ H x xs v us Q I rx rxs h
  obtain ⟨y, a, bs, rfl, hb, ha, q⟩ := h
  cases rxs with
  | cons ry rt =>
    cases rt
    obtain ⟨p, vs, rfl, hs, hr⟩ := lst_rp hb
    cases rx
    obtain ⟨its, rv, pl, _⟩ := I.list hs
    exact count_list_datum pl.isList (by simpa using hr.holds I rv) (ha.holds I ry) (by omega) ⟨.int _, H, I.tok _, ⟨_, rfl⟩, q⟩
end
end G
set_option Elab.async false
set_option linter.all false
set_option maxRecDepth 100000
set_option maxHeartbeats 4000000
/-! Rules that the layer lacks, part c: enumerate(v), t[::-1], an own exception without arguments. -/
namespace G
open PySem PySem.Spec PyProof.Rows L2
open Sem (wp)
theorem meets_enumerate_new1 {v : Value} {o : Obj} {H : Heap → Prop} (B : Begins v o H) :
    Meets (Builtin.«enumerate.__new__» ⟨[.type "enumerate", v], []⟩) (fun _ R s => H s.heap ∧
      R (.ok (.ret (.ref (s.heap.push o).objs.size))) { s with heap := (s.heap.push o).push { cls := .type "enumerate", data := .fields #[.none, .bool false, .ref s.heap.objs.size, rawInt 0, .none, .none] } }) :=
  .of_wp fun prog w A R s h => by
    obtain ⟨hp, g, d, tk, os⟩ := s; obtain ⟨h1, h⟩ := h
    have hsub := sub_enumerate
    have q1 : ∀ {A' : Around} {E : Value → Shared → Prop} {Q : Value → Shared → Prop}, Q (.ref hp.objs.size) ⟨hp.push o, g, d, tk, os⟩ → wpAny (model prog w) A' (pyIter v) Q E ⟨hp, g, d, tk, os⟩ :=
      fun q => B.iter prog w _ _ ⟨hp, g, d, tk, os⟩ _ h1 q
    wp_walk using q1
    refine wpAny_stack_any fun st => wpAny_pure ?_
    split
    · rename_i c _ _ _ _ _
      cases (c == Value.type "enumerate")
      · wp_walk using q1
        exact ⟨_, rfl, h⟩
      · wp_walk using q1
        exact ⟨_, rfl, h⟩
    · wp_walk using q1
      exact ⟨_, rfl, h⟩
section
variable {prog : Program} {w : World} {A : Around} {E : Value → Shared → Prop} {s : Shared}
theorem enum_begins1 {v : Value} {o : Obj} {H : Heap → Prop} {Q : Value → Shared → Prop} (B : Begins v o H) (h1 : H s.heap)
    (h : ∀ h', IsEnum h' (s.heap.objs.size + 1) s.heap.objs.size 0 .none → h'.get? s.heap.objs.size = some o → h'.objs.size = s.heap.objs.size + 2 →
      (∀ b o, s.heap.get? b = some o → h'.get? b = some o) → Q (.ref (s.heap.objs.size + 1)) { s with heap := h' }) :
    wpAny (model prog w) A (call (.type "enumerate") [v]) Q E s := by
  refine callType_new PySem.F.called_enumerate (by decide) (PySem.F.typeCall_enumerate_1 _) (PySem.F.newCall_enumerate_1 _) (fun obj => PySem.F.args_object_init_2 obj _) PySem.F.entry_enumerate_new
    (meets_enumerate_new1 B) ⟨h1, ?_⟩
  have hz : (s.heap.push o).objs.size = s.heap.objs.size + 1 := Heap.size_push ..
  show _ ∧ _
  rw [hz]
  have he : IsEnum ((s.heap.push o).push { cls := .type "enumerate", data := .fields #[.none, .bool false, .ref s.heap.objs.size, rawInt 0, .none, .none] }) (s.heap.objs.size + 1) s.heap.objs.size 0 .none := by
    have := Heap.get?_push_size (s.heap.push o) (o := { cls := .type "enumerate", data := .fields #[.none, .bool false, .ref s.heap.objs.size, rawInt 0, .none, .none] }) rfl
    rw [hz] at this; exact this
  refine ⟨⟨_, he, rfl⟩, h _ he (Heap.get?_push_of_some _ (Heap.get?_push_size _ B.free)) (by rw [Heap.size_push, hz]) fun b o x => Heap.get?_push_of_some _ (Heap.get?_push_of_some _ x)⟩
end
theorem pi_enumG {X : Cx} {e : Expr} {ta : TA} {p pos tpos : Pos} {elts : List Expr} {kk : Nat} (b : Bool) (hg : Gl X "enumerate") (hm : X.mg "enumerate" = none) (ha : PA X [e] ta) (hs : starEach [e] X.env = [(false, eval e X.env)] := by rfl) :
    PI X (.Tuple elts kk tpos) (.Call (.Name "enumerate" p) [e] [] pos) (iEnumG X.K b ta) := by
  refine ⟨fun pins s σ H R I h => ?_⟩
  refine Call_ (ld_blt I hg hm boot_enumerate (PyProof.Rows.callWith_type1 (thn (ha.run pos pins s σ H _ I h) fun us s1 ⟨vs, H1, I1, r1, q1⟩ => ?_) hs rfl))
  obtain ⟨a, xs, ex, hq, q⟩ := q1
  subst ex
  cases r1 with
  | cons r rr =>
    cases rr
    cases r
    obtain ⟨its, rv, p', l1⟩ := sq_of I1 hq
    refine enum_begins1 (begins b a its.toArray) p' fun h' he hit hsz hk => wpAny_pyIter_enum he ?_
    have I2 : Inv X pins σ H1 { s1 with heap := h' } := I1.kept (t' := s1.toks) hk
    refine ⟨s1.heap.objs.size + 1, [s1.heap.objs.size + 1, s1.heap.objs.size], _, _, H1, rfl, I2,
      turn_enumG (b := b) (a := a) (e := s1.heap.objs.size + 1) (it := s1.heap.objs.size) (Nat.succ_ne_self _) (Nat.ne_of_lt l1) (Nat.ne_of_gt (Nat.lt_succ_of_lt l1)), ⟨⟨.none, he⟩, isIter_new hit⟩, fun c hc => ?_, q⟩
    have e' : c = s1.heap.objs.size + 1 ∨ c = s1.heap.objs.size := by simpa using hc
    have hle : s1.heap.objs.size ≤ c := by
      rcases e' with z | z
      · rw [z]; exact Nat.le_add_right _ _
      · rw [z]; exact Nat.le_refl _
    exact I1.fpOk hle (I1.hok.fresh hle)
/-! ### t[::-1] -/
theorem adjust_rev (n : Nat) : Builtin.Slice.sliceAdjust none none (-1) (n : Int) = ((n : Int) - 1, -1) := rfl
theorem places_rev (n : Nat) : Builtin.Slice.slicePlaces ((n : Int) - 1) (-1) (-1) = n := by
  unfold Builtin.Slice.slicePlaces
  rw [if_neg (by decide)]
  by_cases h : (n : Int) - 1 > -1
  · rw [if_pos h]
    have e : ((n : Int) - 1 - -1 - 1) / (- -1) + 1 = (n : Int) := by
      rw [show (- -1 : Int) = 1 by decide, Int.ediv_one]
      omega
    rw [e, Int.toNat_natCast]
  · rw [if_neg h]
    show 0 = n
    omega
theorem pick_rev (xs : Array Value) : ((List.range xs.size).filterMap fun (m : Nat) => xs[(((xs.size : Int) - 1) + (m : Int) * -1).toNat]?).toArray = xs.toList.reverse.toArray := by
  have e : ((List.range xs.size).filterMap fun (m : Nat) => xs[(((xs.size : Int) - 1) + (m : Int) * -1).toNat]?) = ((List.range xs.size).map (fun k => xs.size - 1 - k)).filterMap (xs[·]?) := by
    rw [List.filterMap_map]
    have go : ∀ l : List Nat, (∀ k ∈ l, k < xs.size) → (l.filterMap fun (m : Nat) => xs[(((xs.size : Int) - 1) + (m : Int) * -1).toNat]?) = l.filterMap ((fun x => xs[x]?) ∘ fun k => xs.size - 1 - k) := by
      intro l
      induction l with
      | nil => intro _; rfl
      | cons k l ih =>
        intro hl
        have hk := hl k List.mem_cons_self
        have e1 : (((xs.size : Int) - 1) + (k : Int) * -1).toNat = xs.size - 1 - k := by omega
        rw [List.filterMap_cons, List.filterMap_cons, ih fun j hj => hl j (List.mem_cons_of_mem _ hj), e1] <;> rfl
    exact go _ fun k hk => List.mem_range.mp hk
  rw [e, PySem.W.krv_range, List.filterMap_reverse, PySem.W.krv_all]
section
variable {prog : Program} {w : World} {A : Around} {E : Value → Shared → Prop} {s : Shared}
theorem sliceApplied_rev {sl : Addr} {vl vu vs : Value} {n : Nat} {Q : Int × Int × Nat → Shared → Prop} (hs : s.heap.IsSliceOf sl vl vu vs) (pl : IsPart vl none) (pu : IsPart vu none) (ps : IsPart vs (some (-1)))
    (h : Q ((n : Int) - 1, -1, n) s) : wpAny (model prog w) A (Builtin.Slice.sliceApplied (.ref sl) (pure (n : Int))) Q E s := by
  obtain ⟨os, hos, hcs, hds⟩ := id hs
  unfold Builtin.Slice.sliceApplied Builtin.Slice.sliceFields
  refine wpAny_bind (wpAny_bind (wpAny_field hos hds (x := vl) rfl (wpAny_bind (wpAny_field hos hds (x := vu) rfl (wpAny_bind (wpAny_field hos hds (x := vs) rfl (wpAny_pure ?_)))))))
  refine wpAny_bind (HT.slicePart_ ps ?_)
  show wpAny _ _ (if ((-1 : Int) == 0) = true then _ else _) _ _ s
  rw [if_neg (by decide)]
  refine wpAny_bind (HT.slicePart_ pl (wpAny_bind (HT.slicePart_ pu (wpAny_bind (wpAny_pure ?_)))))
  show wpAny _ _ (match Builtin.Slice.sliceAdjust none none (-1) (n : Int) with | (lo, hi) => pure (lo, (-1 : Int), Builtin.Slice.slicePlaces lo hi (-1))) _ _ s
  rw [adjust_rev n]
  show wpAny _ _ (pure ((n : Int) - 1, (-1 : Int), Builtin.Slice.slicePlaces ((n : Int) - 1) (-1) (-1))) _ _ s
  rw [places_rev]
  exact wpAny_pure h
theorem getItem_tuple_rev {t sl : Addr} {items : Array Value} {vl vu vs : Value} {Q : Value → Shared → Prop} (ht : IsTup s.heap t items) (hs : s.heap.IsSliceOf sl vl vu vs) (pl : IsPart vl none) (pu : IsPart vu none) (ps : IsPart vs (some (-1)))
    (h : Q (.ref s.heap.objs.size) { s with heap := s.heap.push { cls := .type "tuple", data := .seq items.toList.reverse.toArray } })
    (hsz : items.size ≤ sizeLine) : wpAny (model prog w) A (getItem (.ref t) (.ref sl)) Q E s := by
  have htake : sizeOk (.seq items.toList.reverse.toArray) := by
    show (items.toList.reverse.toArray).size ≤ sizeLine
    rw [List.size_toArray, List.length_reverse, Array.length_toList]
    exact hsz
  obtain ⟨os, hos, hcs, hds⟩ := id hs
  have hTs : s.TypeIs (.ref sl) "slice" := ⟨os, hos, hcs⟩
  unfold getItem
  try with_reducible refine wpAny_holding ?_
  first | refine wpAny_bind (wpAny_pure ?_) | skip
  refine wpAny_bind (wpAny_sequenceKey ht.typeIs (by decide) ?_)
  refine wpAny_bind (wpAny_callSpecial?_slot (name := Str.ofString "__getitem__") ht.typeIs PyProof.Rows.slot_tuple_getitem
    (wpAny_call_entry PyProof.Rows.slot_tuple_getitem ht.typeIs entry_tuple_getitem ?_ (args_tuple_getitem _ _)))
  show wpAny _ _ (Builtin.Tuple.tupleItemsOf (.ref t) >>= _) _ _ s
  refine wpAny_bind (tupleItemsOf_ ht ?_)
  refine wpAny_bind (wpAny_typeOf hTs ?_)
  rw [if_pos (by decide)]
  refine wpAny_bind (sliceApplied_rev hs pl pu ps ?_)
  have hno : ¬ ((((items.size : Int) - 1) == 0 && (-1 : Int) == 1 && items.size == items.size) = true) := by
    rw [show ((-1 : Int) == 1) = false by decide, Bool.and_false, Bool.false_and]
    decide
  show wpAny _ _ (if (((items.size : Int) - 1) == 0 && (-1 : Int) == 1 && items.size == items.size) = true then _ else _) _ _ s
  rw [if_neg hno, pick_rev]
  first
    | exact wpAny_bind (m := Builtin.Tuple.tupleExact _) (wpAny_newObj_type (wpAny_pure ⟨_, rfl, wpAny_pure h⟩) htake)
    | exact wpAny_bind (m := Builtin.Tuple.tupleExact _) (wpAny_newObj_type (wpAny_bind (wpAny_pure (wpAny_pure ⟨_, rfl, wpAny_pure h⟩))) htake)
    | exact wpAny_bind (wpAny_bind (m := Builtin.Tuple.tupleExact _) (wpAny_newObj_type (wpAny_pure (wpAny_pure ⟨_, rfl, wpAny_pure h⟩)) htake))
    | exact wpAny_bind (wpAny_bind (m := Builtin.Tuple.tupleExact _) (wpAny_newObj_type (wpAny_pure ⟨_, rfl, wpAny_pure h⟩) htake))
end
section
variable {X : Cx}
def tRevU (K : PySem.W.Frag) (te : TE) : TE := fun σ H Q => te σ H fun x H1 => ∃ a xs, x = .ref a ∧ SqT K H1 a xs ∧ ∀ p, H1 p = none → Q (.ref p) (upd H1 p (.tup xs.reverse))
theorem pe_revU {e : Expr} {te : TE} {k : Nat} {p1 p2 p3 pos : Pos} (he : PE X e te) : PE X (.Subscript e (.Slice none none (some (.UnaryOp .USub (.Constant (.int 1) k p1) p2)) p3) pos) (tRevU X.K te) := by
  refine ⟨fun pins s σ H Q I h => ?_⟩
  refine Subscript_ (thn (he.run pins s σ H _ I h) fun v s1 ⟨x, H1, I1, r1, q1⟩ => ?_)
  obtain ⟨a, xs, ex, hx, q⟩ := q1
  subst ex
  cases r1
  have hst : PO X (some (.UnaryOp .USub (.Constant (.int 1) k p1) p2)) (tPart (tUn (rU fun i => .int (-i)) (tC (.int 1)))) := po_some (pe_un un_neg pe_int)
  refine wpAny_Slice (thn (po_none.run pins s1 σ H1 (fun o H2 => o = none ∧ H2 = H1) I1 ⟨rfl, rfl⟩) fun vl s2 ⟨l, H2, I2, pl, el, e2⟩ => ?_)
  subst el e2
  refine thn (po_none.run pins s2 σ H2 (fun o H3 => o = none ∧ H3 = H2) I2 ⟨rfl, rfl⟩) fun vu s3 ⟨u, H3, I3, pu, eu, e3⟩ => ?_
  subst eu e3
  refine thn (hst.run pins s3 σ H3 (fun o H4 => o = some (-1) ∧ H4 = H3) I3 ⟨1, rfl, -1, rfl, rfl, rfl⟩) fun vs s4 ⟨o, H4, I4, ps, eo, e4⟩ => ?_
  subst eo e4
  have I5 : Inv X pins σ H4 { s4 with heap := s4.heap.push { cls := .type "slice", data := .fields #[vl, vu, vs] } } := I4.kept (t' := s4.toks) fun b ob q => Heap.get?_push_of_some _ q
  obtain ⟨its, r, ht, hz⟩ := I5.tuple hx
  have hlen := r.length
  show wpAny (model X.prog X.w) X.A (subscriptTail e (.Slice none none (some (.UnaryOp .USub (.Constant (.int 1) k p1) p2)) p3) (.ref a) (.ref s4.heap.objs.size)) (EP X pins σ Q) X.xe { s4 with heap := s4.heap.push { cls := .type "slice", data := .fields #[vl, vu, vs] } }
  refine tail_any (ops := [.ref a, .ref s4.heap.objs.size]) ht.typeIs (PyProof.Rows.slot_tuple_getitem.lookup) ?_ (by with_unfolding_all rfl)
  refine getItem_tuple_rev ht (Heap.IsSliceOf.new _ vl vu vs) pl pu ps ?_ (by rw [List.size_toArray]; omega)
  refine ⟨.ref _, _, I5.laid (t' := s4.toks) (o := .tup xs.reverse) (fun b ob q => Heap.get?_push_of_some _ q) (Nat.le_refl _) ?_, rfl, q _ (I5.hok.fresh (Nat.le_refl _))⟩
  exact ⟨by rw [List.length_reverse]; exact hz, _, r.reverse, IsTup.new _ _⟩
/-! ### raise X(), X an own class without __init__ -/
theorem pmk_own0 {C : Addr} {bmB : List Value} {B newId initId : String} {x : Str} {p pos : Pos} (F : ExcBaseFacts B newId initId bmB) (q : PySem.W.excIn X.K C bmB newId = true) (gC : X.mg x = some (.ref C))
    (kC : PySem.W.keepIn X.K (.ref C) = true) (r : Raises X (.ref C)) (hg : Gl X x) (hdb : (x == ("__debug__" : Str)) = false := by decide) :
    PMk X (.Call (.Name x p) [] [] pos) (fun _ H Q => Q (.ref C) none H) := by
  intro pins s σ H Q I h
  refine wpAny_Call_Name_kw (ld_glob I hg gC ?_ hdb)
  refine PySem.W.callWith_K0 I.kIn kC ?_
  obtain ⟨bm, N, nm, qn, bs, hdct, sn, sub, ab, col, dd, k0, k1, k2, k3, k5, mN, hC, hN, hni, T⟩ := exc_obj I.kIn q
  exact wpAny_call_exc_subT F T hC hN hni (fun h' e hm => mk_of I hm r h (I.hok.gone hm.new)) (by show 0 ≤ sizeLine; exact Nat.zero_le _)
end
end G
set_option Elab.async false
set_option linter.all false
set_option maxRecDepth 100000
set_option maxHeartbeats 4000000
/-! Rules that the layer lacks, part d: list + list of any two readable lists; list.extend by any readable list or tuple. -/
namespace G
open PySem PySem.Spec PyProof.Rows L2
open AutoSeq1 (wpAny_loadPart')
theorem list_extendW (l : Addr) (items : Array Value) (n : Nat) (b : Addr) (items2 : Array Value) (n2 : Nat) (dd : Option Addr) (sl : Array (Option Value)) (hc0 : ¬(!items.isEmpty && Builtin.List.listTooLong (items.size + items2.size)) = true) (hc1 : items.size ≤ sizeLine) (hs2 : items.size + items2.size ≤ sizeLine + 1) :
    Meets (Builtin.«list.extend» ⟨[.ref l, .ref b], []⟩) (fun _ R s => s.heap.get? l = some { cls := .type "list", dict := none, data := .seq items n, slots := #[] } ∧ s.heap.get? b = some { cls := .type "list", dict := dd, data := .seq items2 n2, slots := sl } ∧ R (.ok (.ret Value.none)) { s with heap := s.heap.update l (Obj.mapSeq fun x => x ++ items2), toks := s.toks }) :=
  .of_wp fun prog w A R s h => by
    obtain ⟨hp, g, d, tk, os⟩ := s; obtain ⟨hl, hb, h⟩ := h; have f1 := AutoSeq1.idx_int; have f2 := AutoSeq1.sub_tuple_tuple; have f3 := AutoSeq1.sub_list_list; have f4 := AutoSeq1.sub_tuple_list; have f5 := AutoSeq1.sub_list_tuple;
    have hz' : (items ++ items2).size ≤ sizeLine + 1 := by rw [Array.size_append]; exact hs2
    wp_walk using (wpAny_updateSeq hl rfl (hz := hc1) (_hz' := hz')), wpAny_loadPart' hl, wpAny_loadPart' hb; exact ⟨_, rfl, h⟩
theorem list_extendUW (l : Addr) (items : Array Value) (n : Nat) (b : Addr) (items2 : Array Value) (n2 : Nat) (dd : Option Addr) (sl : Array (Option Value)) (hs0 : ¬(!items.isEmpty && Builtin.List.listTooLong (items.size + items2.size)) = true) (hs1 : items.size ≤ sizeLine) (hs2 : items.size + items2.size ≤ sizeLine + 1) :
    Meets (Builtin.«list.extend» ⟨[.ref l, .ref b], []⟩) (fun _ R s => s.heap.get? l = some { cls := .type "list", dict := none, data := .seq items n, slots := #[] } ∧ s.heap.get? b = some { cls := .type "tuple", dict := dd, data := .seq items2 n2, slots := sl } ∧ R (.ok (.ret Value.none)) { s with heap := s.heap.update l (Obj.mapSeq fun x => x ++ items2), toks := s.toks }) :=
  .of_wp fun prog w A R s h => by
    obtain ⟨hp, g, d, tk, os⟩ := s; obtain ⟨hl, hb, h⟩ := h; have f1 := AutoSeq1.idx_int; have f2 := AutoSeq1.sub_tuple_tuple; have f3 := AutoSeq1.sub_list_list; have f4 := AutoSeq1.sub_tuple_list; have f5 := AutoSeq1.sub_list_tuple;
    have hz' : (items ++ items2).size ≤ sizeLine + 1 := by rw [Array.size_append]; exact hs2
    wp_walk using (wpAny_updateSeq hl rfl (hz := hs1) (_hz' := hz')), wpAny_loadPart' hl, wpAny_loadPart' hb; exact ⟨_, rfl, h⟩
section
variable {X : Cx}
def rCatG (K : PySem.W.Frag) : R2 := fun x y H Q => ∃ l b xs zs, x = .ref l ∧ y = .ref b ∧ SqL K H l xs ∧ SqL K H b zs ∧ xs.length + zs.length ≤ sizeLine ∧ ∀ p, H p = none → Q (.ref p) (upd H p (.lst (xs ++ zs)))
theorem op_catG : OpR X (binaryOp .Add) (rCatG X.K) := by
  intro pins s σ H x y v u Q I rx ry h
  obtain ⟨l, b, xs, zs, rfl, rfl, hH, hB, hz, q⟩ := h
  cases rx
  cases ry
  obtain ⟨its, r, ⟨⟨cls, dd, data, sl⟩, n, e, hc, hd, he⟩, z⟩ := I.list hH
  obtain ⟨its2, r2, ⟨⟨cls2, dd2, data2, sl2⟩, n2, e2, hc2, hd2, he2⟩, z2⟩ := I.list hB
  simp only at hc hd he hc2 hd2 he2
  subst hc hd he hc2 hd2 he2
  have hl := r.length
  have hl2 := r2.length
  refine concat_meets ⟨_, e, rfl⟩ ⟨_, e2, rfl⟩ noFill_list_add seq_list_add PySem.F.slot_list_add PySem.F.entry_list_add (PySem.F.args_list_add_2 _ _) (list_addW l b its.toArray its2.toArray n n2 none none sl sl2 (by rw [List.size_toArray, List.size_toArray]; omega)) ⟨e, e2, ?_⟩
  have ea : its.toArray ++ its2.toArray = (its ++ its2).toArray := by simp
  rw [ea]
  exact ⟨.ref _, _, I.lnew (t' := s.toks) (r.append r2) (by rw [List.length_append]; omega), rfl, q _ I.fresh⟩
def rExtendG (K : PySem.W.Frag) : V → List V → Hp → VK → Prop := fun x vs H Q => ∃ l b xs zs, x = .ref l ∧ vs = [.ref b] ∧ H l = some (.lst xs) ∧ (SqL K H b zs ∨ SqT K H b zs) ∧ xs.length + zs.length ≤ sizeLine ∧ Q .non (upd H l (.lst (xs ++ zs)))
theorem mt_extendG : MtM X "list.extend" (rExtendG X.K) := by
  intro pins s σ H x vs v us Q I rx rv h
  obtain ⟨l, b, xs, zs, rfl, rfl, hH, hB, hz, q⟩ := h
  cases rx
  obtain ⟨u, rfl, ru⟩ := rv.one
  cases ru
  obtain ⟨z, its, n, r, hl, e⟩ := I.lstM hH
  rcases hB with hB | hB
  · obtain ⟨its2, r2, ⟨⟨cls2, dd2, data2, sl2⟩, n2, e2, hc2, hd2, he2⟩, z2⟩ := I.list hB
    simp only at hc2 hd2 he2
    subst hc2 hd2 he2
    have hl2 := r2.length
    have hsz : its.toArray.size + its2.toArray.size ≤ sizeLine := by rw [List.size_toArray, List.size_toArray]; omega
    have hlong : ¬ (!its.toArray.isEmpty && Builtin.List.listTooLong (its.toArray.size + its2.toArray.size)) = true := by
      rw [notLongL hsz, Bool.and_false]
      exact Bool.false_ne_true
    refine call_meets F.slot_list_extend ⟨_, e, rfl⟩ F.entry_list_extend (F.args_list_extend_2 _ _)
      (list_extendW l its.toArray n b its2.toArray n2 none sl2 hlong (by rw [List.size_toArray]; omega) (by omega)) ⟨e, e2, ?_⟩
    refine ⟨.non, _, I.lset (its' := its ++ its2) hH e (by simp) (r.append r2) ?_, rfl, q⟩
    rw [List.length_append]
    omega
  · obtain ⟨its2, r2, ⟨⟨cls2, dd2, data2, sl2⟩, e2, hc2, n2, he2⟩, z2⟩ := I.tuple hB
    simp only at hc2 he2
    subst hc2 he2
    have hl2 := r2.length
    have hsz : its.toArray.size + its2.toArray.size ≤ sizeLine := by rw [List.size_toArray, List.size_toArray]; omega
    have hlong : ¬ (!its.toArray.isEmpty && Builtin.List.listTooLong (its.toArray.size + its2.toArray.size)) = true := by
      rw [notLongL hsz, Bool.and_false]
      exact Bool.false_ne_true
    refine call_meets F.slot_list_extend ⟨_, e, rfl⟩ F.entry_list_extend (F.args_list_extend_2 _ _)
      (list_extendUW l its.toArray n b its2.toArray n2 dd2 sl2 hlong (by rw [List.size_toArray]; omega) (by omega)) ⟨e, e2, ?_⟩
    refine ⟨.non, _, I.lset (its' := its ++ its2) hH e (by simp) (r.append r2) ?_, rfl, q⟩
    rw [List.length_append]
    omega
end
end G
set_option Elab.async false
set_option linter.all false
set_option maxRecDepth 100000
set_option maxHeartbeats 4000000
/-! Rules that the layer lacks, part j: dicts whose keys are truth values: displays, comprehensions, items(). A dict that is made is known from then on (it isn't changed any more). -/
namespace G
open PySem PySem.Spec PyProof.Rows L2
open PpSet (boolK boolK_is isB_shape)
/-- what is true of a heap in which the dict at d holds kvs -/
def hasB (P : Program) (w : World) (d : Addr) (kvs : List (Bool × V)) (h : Heap) : Prop := kvs.length ≤ sizeLine ∧ (d == sysModules) = false ∧ ∃ vs, KV kvs vs ∧ h.DictOf (boolK P w) d vs
def dB (P : Program) (w : World) (d : Addr) (kvs : List (Bool × V)) : HO := .ext (hasB P w d kvs)
section
variable {P : Program} {w : World} {H : Hp} {h h' : Heap} {d : Addr} {kvs : List (Bool × V)}
theorem dB_ok (x : hasB P w d kvs h) : ObjOk P w H h d (dB P w d kvs) := by
  obtain ⟨z, hs, vs, r, o, es, ep, ho, y⟩ := x
  refine ⟨⟨z, hs, vs, r, o, es, ep, ho, y⟩, ⟨o, ho⟩, fun h1 h2 q k => ?_⟩
  obtain ⟨z, hs, vs, r, dd⟩ := q
  exact ⟨z, hs, vs, r, dd.at k⟩
theorem hasB_empty (h : Heap) (hz : sysModules < h.objs.size) : hasB P w h.objs.size [] (h.push { cls := .type "dict", data := .dict #[] }) :=
  ⟨Nat.zero_le _, beq_eq_false_iff_ne.mpr (Ne.symm (Nat.ne_of_lt hz)), [], .nil, Heap.DictOf.new h⟩
end
section
variable {X : Cx} {pins : List (Addr × Obj)} {σ : L2.St} {H : Hp} {s : Shared} {d : Addr} {kvs : List (Bool × V)}
/-- d[k] = v, k a truth value -/
theorem setB {E : Value → Shared → Prop} {k : Bool} {v : V} {r : Value} {Q : Unit → Shared → Prop} (I : Inv X pins σ H s) (hD : H d = some (dB X.prog X.w d kvs)) (hz : kvs.length < sizeLine) (rv : RelV v r)
    (q : ∀ s', Inv X pins σ (upd H d (dB X.prog X.w d (putK kvs k v))) s' → Q () s') : wpAny (model X.prog X.w) X.A (dictSet d (.bool k) r) Q E s := by
  obtain ⟨⟨z, hs, vs, rel, dd⟩, _, _⟩ := I.hok d _ hD
  have hzv : vs.length ≤ sizeLine := by rw [← rel.length]; exact z
  refine wpAny_dictSet_pairs (knd := boolK X.prog X.w) (hsz := hzv) (boolK_is X.prog X.w k) dd fun h' dd' sb => q _ ?_
  have hl : (putK kvs k v).length ≤ sizeLine := by have := length_putK kvs k v; omega
  have he : ∃ q, h'.get? d = some q := let ⟨q, _, _, hq, _⟩ := dd'; ⟨q, hq⟩
  exact d_write I (by rw [hD]; exact True.intro) sb he (dB_ok ⟨hl, hs, _, rel.put k rv, dd'⟩)
/-- {k: v}: one truth value -/
def tDispB (P : Program) (w : World) (tk tv : TE) : TE := fun σ H Q => ∀ p, H p = none → tk σ (upd H p (dB P w p [])) fun y H1 => tv σ H1 fun z H2 => ∃ b, y = .bl b ∧ H2 p = some (dB P w p []) ∧ ∀ od, Q (.ref p) (upd H2 p (.frz od (dB P w p [(b, z)])))
theorem pe_dispB {ke ve : Expr} {pos : Pos} {tk tv : TE} (hk : PE X ke tk) (hv : PE X ve tv) : PE X (.Dict [some ke] [ve] pos) (tDispB X.prog X.w tk tv) := by
  refine ⟨fun pins s σ H Q I q => ?_⟩
  have hn := I.hok.fresh (Nat.le_refl s.heap.objs.size)
  have I1 := I.laid (a := s.heap.objs.size) (o := dB X.prog X.w s.heap.objs.size []) (h' := s.heap.push { cls := .type "dict", data := .dict #[] }) (t' := s.toks) (fun _ _ q => Heap.get?_push_of_some _ q) (Nat.le_refl _) (dB_ok (hasB_empty s.heap I.big))
  have hp := pps_cons (pos := pos) hk hv pps_nil
  refine wpAny_Dict_walk (knd := boolK X.prog X.w) rfl rfl (fun z => by cases z) (Nat.le_of_ble_eq_true rfl) (thn (hp.run pins _ σ _ (fun ps H2 => match ps with
    | [(y, z)] => ∃ b, y = .bl b ∧ H2 s.heap.objs.size = some (dB X.prog X.w s.heap.objs.size []) ∧ ∀ od, Q (.ref s.heap.objs.size) (upd H2 s.heap.objs.size (.frz od (dB X.prog X.w s.heap.objs.size [(b, z)])))
    | _ => False) I1 (q _ hn)) fun ws s2 ⟨ps, H2, I2, rel, e⟩ => ?_)
  match ps, rel, e with
  | [(y, z)], rel, e =>
    obtain ⟨b, rfl, e, q2⟩ := e
    cases rel with
    | @cons _ rr _ _ r1 r2 =>
      cases r2
      obtain ⟨u1, u2⟩ := rr
      obtain ⟨h1, h2⟩ := r1
      have e1 : u1 = Value.bool b := h1
      subst e1
      obtain ⟨⟨_, hs, vs0, r0, dd⟩, _, _⟩ := I2.hok _ _ e
      cases r0
      refine ⟨[(b, u2)], ⟨boolK_is X.prog X.w b, rfl, True.intro⟩, dd, fun h' dd' sb => ?_⟩
      have he : ∃ q, h'.get? s.heap.objs.size = some q := let ⟨q, _, _, hq, _⟩ := dd'; ⟨q, hq⟩
      have I3 := d_write (t' := s2.toks + 1) I2 (by rw [e]; exact True.intro) sb he (dB_ok (P := X.prog) (w := X.w) (kvs := [(b, z)]) ⟨by show 1 ≤ sizeLine; decide, hs, [(b, u2)], .cons ⟨rfl, h2⟩ .nil, dd'⟩)
      obtain ⟨od, I4⟩ := I3.lock (d := s.heap.objs.size) upd_same True.intro
      rw [upd_upd] at I4
      exact ⟨.ref s.heap.objs.size, _, I4, rfl, q2 od⟩
end
/-! ### {k: v for ..}, k truth values -/
section
variable {X : Cx}
/-- the loop: D the new dict, W by the turn and a measure -/
def tDcB (P : Program) (w : World) (wi : TI) (g : TG) (tt : TT) (tk tv : TE) (vs : List Nat) : TE := fun σ H Q => wi σ H fun J H1 => ∀ D, H1 D = none → ∃ W : Nat → Nat → Hp → Prop, (∃ m, W 0 m (upd H1 D (dB P w D []))) ∧ ∀ i m H, W i m H →
  (J.stop i H ∧ ∃ kvs, H D = some (dB P w D kvs) ∧ ∀ od, Q (.ref D) (upd H D (.frz od (dB P w D kvs)))) ∨ (J.go i H ∧ ∃ Nx : Hp → Prop, (∀ H', Nx H' → ∃ m', m' < m ∧ W (i + 1) m' H') ∧ ∀ x H', J.yld i H x H' → g x (wipe σ vs) H' fun σ2 H2 => wipe σ2 vs = wipe σ vs ∧ tt σ2 H2 fun b H3 =>
    if b = true then tk σ2 H3 fun y H4 => tv σ2 H4 fun z H5 => ∃ kvs k, y = .bl k ∧ H5 D = some (dB P w D kvs) ∧ kvs.length < sizeLine ∧ Nx (upd H5 D (dB P w D (putK kvs k z))) else Nx H3)
theorem dcB_core {pins : List (Addr × Obj)} {s : Shared} {σ : L2.St} {H : Hp} {Q : VK} {kx vx tg iter : Expr} {ifs : List Expr} {scope : Scope} {own : List (Str × Nat)} {pos pos' : Pos} {wi : TI} {g : TG} {tt : TT} {tk tv : TE} {use : Option (Value → Sem Unit)} {Qf : Value → Shared → Prop}
    (hc : X.calm = true) (hN : X.N.Nodup) (I : Inv X pins σ H s) (hi : PI X tg iter wi) (ok : BlkOk X.N X.env.scope scope own)
    (hg : ∀ (s : Shared) (H : Hp) (C : Addr) (cl : List (Str × Addr)) (fp : List Addr), PG (X.blk s H scope (compEnvC scope cl C X.env) fp) tg g) (ht : ∀ (s : Shared) (H : Hp) (C : Addr) (cl : List (Str × Addr)) (fp : List Addr), PTs (X.blk s H scope (compEnvC scope cl C X.env) fp) ifs tt)
    (hk : ∀ (s : Shared) (H : Hp) (C : Addr) (cl : List (Str × Addr)) (fp : List Addr), PE (X.blk s H scope (compEnvC scope cl C X.env) fp) kx tk)
    (he : ∀ (s : Shared) (H : Hp) (C : Addr) (cl : List (Str × Addr)) (fp : List Addr), PE (X.blk s H scope (compEnvC scope cl C X.env) fp) vx tv) (hs : ∀ x, foldedSetIterable iter X.env x = pure x)
    (h : tDcB X.prog X.w wi g tt tk tv (own.map (·.2)) σ H Q)
    (hRR : ∀ D C s' m H', Inv X pins σ H' s' → Q (.ref D) H' → s'.heap.Ns C m → FpOk X pins H' C → compPost (model X.prog X.w) X.A X.xe use Qf (.ref D) C (.ok .next) s') :
    wpAny (model X.prog X.w) X.A (comprehension (.DictComp kx vx [⟨tg, iter, ifs, 0⟩] scope pos) scope X.env pos' newDict false (eval iter X.env) use) Qf X.xe s := by
  have hfree : ∀ y ∈ scope.names, y.2 = .free → ∃ c, X.env.cells.lookup y.1 = some c := fun y hy e => by
    rcases ok.free y hy e with k | k
    · exact I.ok.has _ (.inl k)
    · exact I.ok.has _ (.inr k)
  refine wpAny_comprehension_free (use := use) rfl hs (closure_ok hfree) ok.kind (fun y hy e => by rw [ok.uniq y hy, e])
    (thn (hi.run pins s σ H _ I h) fun xv s1 hx => thn hx fun itv s2 h2 => ?_)
  obtain ⟨it, fp, tn, J, H2, e, I2, T, st2, f2, q⟩ := h2
  subst e
  refine wpAny_newObj_type (newEnv_comp ?_)
  generalize hD : s2.heap.objs.size = D
  have hDn : H2 D = none := I2.hok.fresh (Nat.le_of_eq hD)
  obtain ⟨W, ⟨m0, w0⟩, turn⟩ := q D hDn
  -- the new list
  generalize hs3 : ({ s2 with heap := s2.heap.push { cls := .type "dict", data := .dict #[] } } : Shared) = s3
  have I3 : Inv X pins σ (upd H2 D (dB X.prog X.w D [])) s3 := by
    rw [← hs3]
    refine I2.laid (t' := s2.toks) (fun b o e => Heap.get?_push_of_some _ e) (Nat.le_of_eq hD) ?_
    rw [← hD]
    exact dB_ok (hasB_empty s2.heap I2.big)
  have h3 : s3.heap = s2.heap.push { cls := .type "dict", data := .dict #[] } := by rw [← hs3]
  have sz : ∀ b ∈ fp, b < s2.heap.objs.size := fun b hb => by
    obtain ⟨o, e, _⟩ := T.obj _ _ st2 b hb
    exact Heap.lt_size e
  have f3 : ∀ b ∈ fp, FpOk X pins (upd H2 D (dB X.prog X.w D [])) b ∧ b < s3.heap.objs.size := fun b hb => by
    have hlt := sz b hb
    refine ⟨⟨?_, (f2 b hb).2⟩, by rw [h3, Heap.size_push]; exact Nat.lt_succ_of_lt hlt⟩
    rw [upd_ne (by rw [← hD]; exact Nat.ne_of_lt hlt)]
    exact (f2 b hb).1
  have st3 : tn 0 s3.heap := T.keep _ _ _ st2 fun b _ o e => by rw [h3]; exact Heap.get?_push_of_some _ e
  have I4 := block_start I3 ok hN f3
  have pg := hg s3 (upd H2 D (dB X.prog X.w D [])) s3.heap.objs.size (cellsFrom (s3.heap.objs.size + 1) scope.names (cloFrom X.env.cells scope.names [])) fp
  have pt := ht s3 (upd H2 D (dB X.prog X.w D [])) s3.heap.objs.size (cellsFrom (s3.heap.objs.size + 1) scope.names (cloFrom X.env.cells scope.names [])) fp
  have pk := hk s3 (upd H2 D (dB X.prog X.w D [])) s3.heap.objs.size (cellsFrom (s3.heap.objs.size + 1) scope.names (cloFrom X.env.cells scope.names [])) fp
  have pe := he s3 (upd H2 D (dB X.prog X.w D [])) s3.heap.objs.size (cellsFrom (s3.heap.objs.size + 1) scope.names (cloFrom X.env.cells scope.names [])) fp
  show codeAny _ _ (.compStart (.DictComp kx vx [⟨tg, iter, ifs, 0⟩] scope pos) 0 (.ref it) (.ref D) (compEnvC scope (cellsFrom (s3.heap.objs.size + 1) scope.names (cloFrom X.env.cells scope.names [])) s3.heap.objs.size X.env)) (compPost (model X.prog X.w) X.A X.xe use Qf (.ref D) s3.heap.objs.size) { s3 with heap := pushCells (s3.heap.push { cls := .type "dict", data := .dict #[] }) scope.names }
  have nfp : ∀ b ∈ fp, (upd H2 D (dB X.prog X.w D [])) b = none := fun b hb => (f3 b hb).1.1
  generalize hce : compEnvC scope (cellsFrom (s3.heap.objs.size + 1) scope.names (cloFrom X.env.cells scope.names [])) s3.heap.objs.size X.env = ce at I4 pg pt pk pe ⊢
  have cL : ce.locals = s3.heap.objs.size := by subst hce; rfl
  generalize hH3 : upd H2 D (dB X.prog X.w D []) = H3 at I3 I4 pg pt pk pe w0 nfp f3
  generalize hs4 : ({ s3 with heap := pushCells (s3.heap.push { cls := .type "dict", data := .dict #[] }) scope.names } : Shared) = s4 at I4 ⊢
  have st4 : tn 0 s4.heap := T.keep _ _ _ st3 fun b _ o e => by rw [← hs4]; exact pushCells_keeps _ _ _ _ (Heap.get?_push_of_some _ e)
  have stat : ∀ {σ' : L2.St} {H' : Hp} {s' : Shared}, Inv (X.blk s3 H3 scope ce fp) [] σ' H' s' → (∀ b ∈ fp, H' b = none) → ∀ b ∈ fp, FpOk (X.blk s3 H3 scope ce fp) [] H' b := fun {σ' H' s'} I' hn b hb =>
    ⟨hn b hb, (I'.ok.exf b hb).1, I'.ok.exfs b hb, .inl hb, fun x c e => (I'.ok.exf b hb).2 x c e, fun p hp => absurd (show p ∈ ([] : List (Addr × Obj)) ++ [] from hp) (by simp)⟩
  have loop : codeAny (model X.prog X.w) X.A (.compLoop (.DictComp kx vx [⟨tg, iter, ifs, 0⟩] scope pos) 0 (.ref it) (.ref D) ce) (compPost (model X.prog X.w) X.A X.xe use Qf (.ref D) s3.heap.objs.size) s4 := by
    refine compLoop_anyD (fun n s' => ∃ i H', Inv (X.blk s3 H3 scope ce fp) [] (wipe σ (own.map (·.2))) H' s' ∧ tn i s'.heap ∧ (∀ b ∈ fp, H' b = none) ∧ W i n H') ?_ m0 ⟨0, H3, I4, st4, nfp, w0⟩
    rintro n s5 ⟨i, H5, I5, st5, n5, w5⟩
    rcases turn i n H5 w5 with ⟨stop, kvs, eD, qq⟩ | ⟨go, Nx, hNx, step⟩
    · have td := T.done (X.blk s3 H3 scope ce fp) rfl rfl rfl hc i [] s5 _ H5 (fun _ _ => False) I5 (stat I5 n5) st5 stop
      refine thnF td fun r s6 ⟨hr, I6⟩ => ?_
      subst hr
      -- back in the def's context
      have I7 : Inv X pins σ H5 s6 := I3.call' (ch := fp) I6.os I6.base I6.hok I6.bare fun b hb => ⟨(f3 b hb).1.2.2.2.1, (f3 b hb).1.2.1, (f3 b hb).1.2.2.2.2.1, (f3 b hb).1.2.2.2.2.2⟩
      have nC : H5 s3.heap.objs.size = none := by
        have z : H5 ce.locals = none := I6.free
        rw [cL] at z
        exact z
      obtain ⟨m, hn, _⟩ := I6.loc
      have hn : s6.heap.Ns ce.locals m := hn
      rw [cL] at hn
      obtain ⟨od, I8⟩ := I7.lock eD True.intro
      have nC' : (upd H5 D (.frz od (dB X.prog X.w D kvs))) s3.heap.objs.size = none := by
        rw [upd_ne (fun z => by rw [z, eD] at nC; cases nC)]
        exact nC
      exact hRR D s3.heap.objs.size s6 m _ I8 (qq od) hn (I3.fpOk (Nat.le_refl _) nC')
    · have ti := T.item (X.blk s3 H3 scope ce fp) rfl rfl rfl hc i [] s5 _ H5 (fun _ _ => False) I5 (stat I5 n5) st5 go
      refine thnF ti fun r s6 ⟨u, hr, h6⟩ => ?_
      subst hr
      refine thnF h6 fun _ s7 ⟨x, H7, I7, r7, y7, st7, n7⟩ => ?_
      have I7' := I7.pinned (stat I7 n7) (T.obj _ _ st7)
      refine thnF (pg.run _ s7 _ H7 x u _ I7' r7 (step x H7 y7)) fun _ s8 ⟨σ8, H8, I8, hw8, q8⟩ => ?_
      refine thnF (pt.run _ s8 σ8 H8 _ I8 q8) fun b s9 ⟨H9, I9, q9⟩ => ?_
      -- the turn's end
      have fin : ∀ {s' : Shared} {H' : Hp}, Inv (X.blk s3 H3 scope ce fp) ([] ++ pinsAt fp s7.heap) σ8 H' s' → Nx H' → ∃ m, m < n ∧ ∃ i H', Inv (X.blk s3 H3 scope ce fp) [] (wipe σ (own.map (·.2))) H' s' ∧ tn i s'.heap ∧ (∀ b ∈ fp, H' b = none) ∧ W i m H' := fun {s' H'} I' nx => by
        obtain ⟨m', hm, w'⟩ := hNx H' nx
        have pin' : ∀ b ∈ fp, ∀ o, s7.heap.get? b = some o → s'.heap.get? b = some o ∧ H' b = none := fun b hb o e =>
          let z := I'.pin (b, o) (List.mem_append_right _ (List.mem_append_right _ (mem_pinsAt hb e)))
          ⟨z.1, z.2.1⟩
        have hl : (wipe σ (own.map (·.2))).length = σ8.length := by rw [← hw8, wipe_length]
        refine ⟨m', hm, i + 1, H', (I'.unpinned (pins := [])).weak hl (fun j v e => ?_), T.keep _ _ _ st7 fun b hb o e => (pin' b hb o e).1, fun b hb => ?_, w'⟩
        · rw [← hw8] at e
          exact (wipe_some e).1
        · obtain ⟨o, e, _⟩ := T.obj _ _ st7 b hb
          exact (pin' b hb o e).2
      cases b with
      | false =>
        simp only [Bool.false_eq_true, if_false] at q9 ⊢
        exact fin I9 q9
      | true =>
        simp only [if_true] at q9 ⊢
        refine thnF (pk.run _ s9 σ8 H9 _ I9 q9) fun z s10 ⟨yk, H10, I10, r10, q10⟩ => ?_
        refine thnF (pe.run _ s10 σ8 H10 _ I10 q10) fun z2 s11 ⟨yv, H11, I11, r11, kvs, k, ek, hD11, hz11, nx⟩ => ?_
        subst ek
        have ez : z = Value.bool k := r10
        subst ez
        exact setB (X := X.blk s3 H3 scope ce fp) I11 hD11 hz11 r11 fun s12 I12 => fin I12 nx
  exact codeAny_compStart_dict loop (T.self X.A 0 _ _ _ st4 loop)
theorem pe_dcB {kx vx tg iter : Expr} {ifs : List Expr} {scope : Scope} {own : List (Str × Nat)} {pos : Pos} {wi : TI} {g : TG} {tt : TT} {tk tv : TE} (hc : X.calm = true) (hN : X.N.Nodup) (hi : PI X tg iter wi) (ok : BlkOk X.N X.env.scope scope own)
    (hg : ∀ (s : Shared) (H : Hp) (C : Addr) (cl : List (Str × Addr)) (fp : List Addr), PG (X.blk s H scope (compEnvC scope cl C X.env) fp) tg g) (ht : ∀ (s : Shared) (H : Hp) (C : Addr) (cl : List (Str × Addr)) (fp : List Addr), PTs (X.blk s H scope (compEnvC scope cl C X.env) fp) ifs tt)
    (hk : ∀ (s : Shared) (H : Hp) (C : Addr) (cl : List (Str × Addr)) (fp : List Addr), PE (X.blk s H scope (compEnvC scope cl C X.env) fp) kx tk)
    (he : ∀ (s : Shared) (H : Hp) (C : Addr) (cl : List (Str × Addr)) (fp : List Addr), PE (X.blk s H scope (compEnvC scope cl C X.env) fp) vx tv) (hs : ∀ x, foldedSetIterable iter X.env x = pure x := by intro _; rfl) :
    PE X (.DictComp kx vx [⟨tg, iter, ifs, 0⟩] scope pos) (tDcB X.prog X.w wi g tt tk tv (own.map (·.2))) := by
  refine ⟨fun pins s σ H Q I h => ?_⟩
  rw [arm_eval_DictComp]
  refine dcB_core hc hN I hi ok hg ht hk he hs h fun D C s' m H' I' q hn f => ⟨m, hn, fun h'' sb => ?_⟩
  obtain ⟨f0, f1, f2, f3, f4, f5⟩ := f
  exact ⟨.ref D, H', I'.turned (t' := s'.toks) (fun b o hb e => (sb.2 b hb).trans e) f0 f1 f3 f4 f5, rfl, q⟩
end
/-! ### for k, v in d.items() -/
/-- the pairs, each a new tuple -/
def ItB (P : Program) (w : World) (d : Addr) (o : Obj) (kvs : List (Bool × V)) : It :=
  ⟨fun i H => H d = some (.frz o (dB P w d kvs)) ∧ i < kvs.length, fun i H x H' => ∃ T k v, kvs[i]? = some (k, v) ∧ x = .ref T ∧ H T = none ∧ H' = upd H T (.tup [.bl k, v]), fun i H => H d = some (.frz o (dB P w d kvs)) ∧ kvs.length ≤ i⟩
theorem frzB {X : Cx} {pins : List (Addr × Obj)} {σ : L2.St} {H : Hp} {s : Shared} {d : Addr} {o : Obj} {kvs : List (Bool × V)} (I : Inv X pins σ H s) (h : H d = some (.frz o (dB X.prog X.w d kvs))) :
    (d == sysModules) = false ∧ s.heap.get? d = some o ∧ o.ExactDict ∧ ∃ (es : Array DictEntry) (ep : Nat) (vs : List (Bool × Value)), o.data = .dict es ep ∧ es.size = kvs.length ∧ KV kvs vs ∧ s.heap.DictAt (boolK X.prog X.w) d vs ep := by
  obtain ⟨hd, ⟨z, hs, vs, kv, o', es, ep, ho, hx, hdt, r⟩, _, _⟩ := I.hok d _ h
  rw [hd] at ho
  cases ho
  refine ⟨hs, hd, hx, es, ep, vs, hdt, ?_, kv, o, es, hd, hx, hdt, r⟩
  have l1 := r.2.1.length
  have l2 : kvs.length = vs.length := Paired.length kv
  rw [Array.length_toList] at l1
  omega
section
variable {P : Program} {w : World} {K : PySem.W.Frag} {tg : Expr} {d : Addr} {o : Obj} {es : Array DictEntry} {ep : Nat}
theorem turn_itemsB {kvs : List (Bool × V)} {elts : List Expr} {kk : Nat} {tpos : Pos} (it : Addr) (hod : o.data = .dict es ep) :
    Turn P w K (.Tuple elts kk tpos) (ItB P w d o kvs) [it] it (fun i h => ∃ ok ov, IsItemIter h it d i kvs.length ep ok ov) where
  mem := by simp
  obj := fun i h st b hb => by
    have e : b = it := by simpa using hb
    subst e
    obtain ⟨ok, ov, e⟩ := st
    exact ⟨_, e, fun v z => nomatch z⟩
  keep := fun i h h' st k => let ⟨ok, ov, e⟩ := st; ⟨ok, ov, k it (by simp) _ e⟩
  item := by
    intro X hP hw hK hc i pins s σ H E I hf st hg
    subst hP hw hK
    obtain ⟨hd, hi⟩ := hg
    obtain ⟨hs, hgd, hx, es', ep', vs, hdt, hsz, kv, hm⟩ := frzB I hd
    obtain ⟨rfl, rfl⟩ := dict_ep hod hdt
    obtain ⟨⟨k, v⟩, hkv⟩ : ∃ p, kvs[i]? = some p := ⟨kvs[i], List.getElem?_eq_getElem hi⟩
    obtain ⟨u, hu, ru⟩ := kv_get kv hkv
    have hl : kvs.length = vs.length := Paired.length kv
    obtain ⟨ok, ov, he⟩ := st
    rw [hl] at he
    have hlt : it < s.heap.objs.size := Heap.lt_size he
    refine wpAny_pyNext_items_item he hm hu fun key h' hkey ho hT hz hk => ?_
    refine ⟨_, rfl, wpAny_letOwnedTupleGo_items (s := { s with heap := h' }) ho fun h'' he' sb => ?_⟩
    have hT2 : h''.get? s.heap.objs.size = some { cls := .type "tuple", data := .seq #[key, u] } := (sb.2 _ (Nat.ne_of_gt hlt)).trans hT
    have new : ObjOk X.prog X.w (upd H s.heap.objs.size (.tup [.bl k, v])) h'' s.heap.objs.size (.tup [.bl k, v]) :=
      ⟨by show 2 ≤ sizeLine; decide, [key, u], .cons (isB_shape hkey) (.cons ru .nil), ⟨_, hT2, rfl, _, rfl⟩⟩
    have I1 : Inv X pins σ (upd H s.heap.objs.size (.tup [.bl k, v])) { s with heap := h'' } :=
      I.turnedNew (t' := s.toks) (ch := [it]) (fun b ob hb e => (sb.2 b (by simpa using hb)).trans (hk b ob (by simpa using hb) e)) hf (Nat.le_refl _) new
    refine ⟨.ref s.heap.objs.size, _, I1, rfl, ⟨_, k, v, hkv, rfl, I.hok.fresh (Nat.le_refl _), rfl⟩, ⟨key, u, ?_⟩, fun b hb => ?_⟩
    · rw [hl]; exact he'
    · have e : b = it := by simpa using hb
      rw [e, upd_ne (Nat.ne_of_lt hlt)]
      exact (hf it (by simp)).1
  done := by
    intro X hP hw hK hc i pins s σ H E I hf st hg
    subst hP hw hK
    obtain ⟨hd, hi⟩ := hg
    obtain ⟨f0, f1, f2, f3, f4, f5⟩ := hf it (by simp)
    obtain ⟨hs, hgd, hx, es', ep', vs, hdt, hsz, kv, hm⟩ := frzB I hd
    obtain ⟨rfl, rfl⟩ := dict_ep hod hdt
    have hl : kvs.length = vs.length := Paired.length kv
    obtain ⟨ok, ov, he⟩ := st
    rw [hl] at he
    exact wpAny_pyNext_items_end (I.ok.hd hc) he hm (List.getElem?_eq_none (by omega)) fun h' eb => ⟨rfl, I.turned (t' := s.toks) (fun b ob hb e => eb b ob hb e) f0 f1 f3 f4 f5⟩
  self := fun A i s Q E st h => let ⟨_, _, e⟩ := st; PySem.W.kcp_self e h
end
def iItemsB (P : Program) (w : World) (td : TE) : TI := fun σ H R => td σ H fun x H1 => ∃ d o kvs, x = .ref d ∧ H1 d = some (.frz o (dB P w d kvs)) ∧ R (ItB P w d o kvs) H1
section
variable {X : Cx} {tg e : Expr} {td : TE} {apos cpos : Pos}
theorem pi_itemsB {elts : List Expr} {kk : Nat} {tpos : Pos} (he : PE X e td) (hbase : attributeBase e "items" X.env (eval e X.env) = eval e X.env := by rfl) (hline : (apos.endLine == cpos.line) = true := by rfl) :
    PI X (.Tuple elts kk tpos) (.Call (.Attribute e "items" apos) [] [] cpos) (iItemsB X.prog X.w td) := by
  refine ⟨fun pins s σ H R I h => ?_⟩
  refine wpAny_Call_method (T := "dict") (id := "dict.items") hbase rfl hline F.plainAttrs_dict F.slot_dict_items F.type_dict_items (thn (he.run pins s σ H _ I h) fun u s1 ⟨x, H1, I1, rx, d, o, kvs, ex, hd, q⟩ => ?_)
  subst ex
  obtain rfl : u = Value.ref d := rx
  obtain ⟨hs, hgd, hx, es, ep, vs, hdt, hsz, kv, hm⟩ := frzB I1 hd
  have hl : kvs.length = vs.length := Paired.length kv
  refine ⟨hm.dictOf.typeIs, hm.dictOf.mapOf.noDict, ?_⟩
  have I2 : Inv X pins σ H1 { s1 with heap := s1.heap.push { cls := .type "dict_items", data := .fields #[.ref d] } } := I1.kept (t' := s1.toks) fun b ob q => Heap.get?_push_of_some _ q
  have fin : wpAny (model X.prog X.w) X.A (pyIter (.ref s1.heap.objs.size)) (PIE X pins σ (.Tuple elts kk tpos) R) X.xe { s1 with heap := s1.heap.push { cls := .type "dict_items", data := .fields #[.ref d] } } := by
    refine wpAny_pyIter_items (d := d) (knd := boolK X.prog X.w) ⟨_, Heap.get?_push_size _ rfl, rfl, rfl⟩ (hm.push _) (pi_one (tk := s1.toks) I2 _ (turn_itemsB _ hdt) ⟨.none, .none, ?_⟩ q)
    rw [hl]
    exact Heap.get?_push_size _ rfl
  show wpAny _ _ (callWith cpos (.builtin "dict.items") [.ref d] [] []) _ X.xe s1
  exact method_meetsIn F.slot_dict_items F.entry_dict_items rfl (PySem.evalArgs_none ⟨rfl, hm.dictOf.typeIs, F.args_dict_items_1 _, _, meets_dict_items (boolK X.prog X.w) d hs, ⟨vs, hm.dictOf⟩, fin⟩)
end
theorem walk_itemsB {P : Program} {w : World} {d : Addr} {o : Obj} {kvs : List (Bool × V)} : Walk (ItB P w d o kvs) kvs.length (fun H => H d = some (.frz o (dB P w d kvs))) (YPair (fun i => kvs[i]?.map fun kv => .bl kv.1) (fun i => kvs[i]?.map Prod.snd)) := by
  refine ⟨fun _ _ hi q => ⟨q, hi⟩, fun _ q => ⟨q, Nat.le_refl _⟩, fun i H x H' _ _ y => ?_⟩
  obtain ⟨T, k, v, h1, h2, h3, h4⟩ := y
  exact ⟨T, .bl k, v, h2, h3, h4, by simp [h1], by simp [h1]⟩
end G
set_option Elab.async false
set_option linter.all false
set_option maxRecDepth 100000
set_option maxHeartbeats 4000000
/-! Rules that the layer lacks, part k: dict(zip(t, u)) of two tuples (or lists), keys tuples; {t: v}. -/
namespace G
open PySem PySem.Spec PyProof.Rows L2 PySem.W
section
variable {prog : Program} {w : World} {A : Around} {E : Value → Shared → Prop} {s : Shared} {z TI TO i1 i2 T : Addr} {fp1 fp2 : List Addr} {n1 n2 i : Nat} {P1 P2 : Nat → Value → Prop} {St1 St2 : Nat → Heap → Prop} {f : Bool} {oT : Obj}
/-- a zip whose last pair is still held gives the next -/
theorem zipH_item {Q : Value → Shared → Prop} (S : ZipSep2 z TI TO i1 i2 fp1 fp2) (D1 : Draws prog w A i1 fp1 n1 P1 St1) (D2 : Draws prog w A i2 fp2 n2 P2 St2)
    (hz : IsZipHeld s.heap z TI TO T f) (hT : s.heap.get? T = some oT) (hTI : IsTupOf2 s.heap TI (.ref i1) (.ref i2)) (st1 : St1 i s.heap) (st2 : St2 i s.heap) (l1 : i < n1) (l2 : i < n2)
    (hQ : ∀ x y h' tk, P1 i x → P2 i y → IsZipHeld h' z TI TO T true → St1 (i + 1) h' → St2 (i + 1) h' → IsTupOf2 h' s.heap.objs.size x y → h'.objs.size = s.heap.objs.size + 1 →
      (∀ c o, c ≠ z → c ≠ i1 → c ≠ i2 → s.heap.get? c = some o → h'.get? c = some o) → Q (.ref s.heap.objs.size) { s with heap := h', toks := tk }) :
    wpAny (model prog w) A (Builtin.«zip.__next__» ⟨[.ref z], []⟩) (fun fin s' => ∃ v, fin = .done (.ret v) ∧ Q v s') E s := by
  obtain ⟨hp, g, d, tk0, os⟩ := s
  show wpAny _ _ (field (.ref z) 2 >>= _) _ _ _
  refine wpAny_bind (wpAny_field hz rfl (x := .bool false) rfl ?_)
  show wpAny _ _ (field (.ref z) 3 >>= _) _ _ _
  refine wpAny_bind (wpAny_field hz rfl (x := .ref TI) rfl ?_)
  refine wpAny_bind (wpAny_seqItems hTI rfl ?_)
  show wpAny _ _ (Builtin.SmallTypes.ownedTupleIsFree (.ref z) >>= _) _ _ _
  refine wpAny_bind (wpAny_tupleHeld_zip hz hT fun h1 hz1 hs1 => ?_)
  replace hs1 : Heap.SameBut z hp h1 := hs1
  simp only [Bool.false_eq_true, if_false]
  refine wpAny_bind ?_
  rw [← Array.forIn_toList]
  simp only [List.forIn_cons, List.forIn_nil]
  refine wpAny_bind (wpAny_bind (wpAny_holding ?_))
  show wpAny _ _ (Builtin.SmallTypes.nextOf (.ref i1) >>= _) _ _ ⟨h1, g, d, tk0, os⟩
  refine wpAny_bind (D1.item i _ _ _ l1 (D1.over st1 hs1 S.zf1) fun x h2 tk2 px sx hs2 => wpAny_pure ?_)
  replace hs2 : Heap.SameBut i1 h1 h2 := hs2
  refine wpAny_pure ?_
  refine wpAny_bind (wpAny_bind (wpAny_holding ?_))
  show wpAny _ _ (Builtin.SmallTypes.nextOf (.ref i2) >>= _) _ _ ⟨h2, g, d, tk2, os⟩
  refine wpAny_bind (D2.item i _ _ _ l2 (D2.over (D2.over st2 hs1 S.zf2) hs2 S.sep1_2) fun y h3 tk3 py sy hs3 => wpAny_pure ?_)
  replace hs3 : Heap.SameBut i2 h2 h3 := hs3
  refine wpAny_pure (wpAny_pure ?_)
  show wpAny _ _ (newTuple [x, y] >>= _) _ _ ⟨h3, g, d, tk3, os⟩
  refine wpAny_bind (wpAny_newTuple ?_)
  have hsz : h3.objs.size = hp.objs.size := by rw [hs3.1, hs2.1, hs1.1]
  have hz3 : IsZipHeld h3 z TI TO T true := hs3.extBut _ _ S.zi2 (hs2.extBut _ _ S.zi1 hz1)
  have hk : ∀ c o, c ≠ z → c ≠ i1 → c ≠ i2 → hp.get? c = some o → h3.get? c = some o := fun c o c1 c2 c3 e => hs3.extBut _ _ c3 (hs2.extBut _ _ c2 (hs1.extBut _ _ c1 e))
  have sx3 : St1 (i + 1) h3 := D1.over sx hs3 S.sep2_1
  refine wpAny_pure ⟨_, rfl, ?_⟩
  show Q (.ref h3.objs.size) ⟨h3.push { cls := .type "tuple", data := .seq #[x, y] }, g, d, tk3, os⟩
  have up : ∀ c o, h3.get? c = some o → (h3.push { cls := .type "tuple", data := .seq #[x, y] }).get? c = some o := fun c o e => Heap.get?_push_of_some _ e
  have hp4 : IsTupOf2 (h3.push { cls := .type "tuple", data := .seq #[x, y] }) h3.objs.size x y := Heap.get?_push_size _ rfl
  have hz4 : (h3.push { cls := .type "tuple", data := .seq #[x, y] }).objs.size = h3.objs.size + 1 := Heap.size_push ..
  rw [hsz] at hp4 hz4 ⊢
  exact hQ x y _ tk3 px py (up _ _ hz3) (D1.frame _ _ _ sx3 fun b _ o e => up b o e) (D2.frame _ _ _ sy fun b _ o e => up b o e) hp4 hz4 fun c o c1 c2 c3 e => up c o (hk c o c1 c2 c3 e)
theorem zipH_end {Q : Fin → Shared → Prop} (S : ZipSep2 z TI TO i1 i2 fp1 fp2) (D1 : Draws prog w A i1 fp1 n1 P1 St1) (D2 : Draws prog w A i2 fp2 n2 P2 St2)
    (hz : IsZipHeld s.heap z TI TO T f) (hT : s.heap.get? T = some oT) (hTI : IsTupOf2 s.heap TI (.ref i1) (.ref i2)) (st1 : St1 i s.heap) (st2 : St2 i s.heap) (l1 : i ≤ n1) (l2 : i ≤ n2) (hend : i = n1 ∨ i = n2)
    (hE : ∀ h' tk e, (∀ c o, c ≠ z → c ≠ i1 → c ≠ i2 → s.heap.get? c = some o → h'.get? c = some o) → (∃ o, h'.get? e = some o ∧ o.cls = .type "StopIteration") → E (.ref e) { s with heap := h', toks := tk }) :
    wpAny (model prog w) A (Builtin.«zip.__next__» ⟨[.ref z], []⟩) Q E s := by
  obtain ⟨hp, g, d, tk0, os⟩ := s
  show wpAny _ _ (field (.ref z) 2 >>= _) _ _ _
  refine wpAny_bind (wpAny_field hz rfl (x := .bool false) rfl ?_)
  show wpAny _ _ (field (.ref z) 3 >>= _) _ _ _
  refine wpAny_bind (wpAny_field hz rfl (x := .ref TI) rfl ?_)
  refine wpAny_bind (wpAny_seqItems hTI rfl ?_)
  show wpAny _ _ (Builtin.SmallTypes.ownedTupleIsFree (.ref z) >>= _) _ _ _
  refine wpAny_bind (wpAny_tupleHeld_zip hz hT fun h1 hz1 hs1 => ?_)
  replace hs1 : Heap.SameBut z hp h1 := hs1
  simp only [Bool.false_eq_true, if_false]
  refine wpAny_bind ?_
  rw [← Array.forIn_toList]
  simp only [List.forIn_cons, List.forIn_nil]
  refine wpAny_bind (wpAny_bind (wpAny_holding ?_))
  show wpAny _ _ (Builtin.SmallTypes.nextOf (.ref i1) >>= _) _ _ ⟨h1, g, d, tk0, os⟩
  by_cases h : i < n1
  · refine wpAny_bind (D1.item i _ _ _ h (D1.over st1 hs1 S.zf1) fun x h2 tk2 px sx hs2 => wpAny_pure ?_)
    replace hs2 : Heap.SameBut i1 h1 h2 := hs2
    refine wpAny_pure ?_
    refine wpAny_bind (wpAny_bind (wpAny_holding ?_))
    show wpAny _ _ (Builtin.SmallTypes.nextOf (.ref i2) >>= _) _ _ ⟨h2, g, d, tk2, os⟩
    have e2 : i = n2 := by omega
    refine wpAny_bind (D2.done ⟨h2, g, d, tk2, os⟩ _ _ (by rw [← e2]; exact D2.over (D2.over st2 hs1 S.zf2) hs2 S.sep1_2) fun h3 e hs3 he => ?_)
    replace hs3 : Heap.ExtBut i2 h2 h3 := hs3
    exact hE h3 tk2 e (fun c o c1 c2 c3 x => hs3 _ _ c3 (hs2.extBut _ _ c2 (hs1.extBut _ _ c1 x))) he
  · have e1 : i = n1 := by omega
    refine wpAny_bind (D1.done ⟨h1, g, d, tk0, os⟩ _ _ (by rw [← e1]; exact D1.over st1 hs1 S.zf1) fun h2 e hs2 he => ?_)
    replace hs2 : Heap.ExtBut i1 h1 h2 := hs2
    exact hE h2 tk0 e (fun c o c1 c2 _ x => hs2 _ _ c2 (hs1.extBut _ _ c1 x)) he
theorem nextH_item {Q : Option Value → Shared → Prop} (S : ZipSep2 z TI TO i1 i2 fp1 fp2) (D1 : Draws prog w A.in1 i1 fp1 n1 P1 St1) (D2 : Draws prog w A.in1 i2 fp2 n2 P2 St2)
    (hz : IsZipHeld s.heap z TI TO T f) (hT : s.heap.get? T = some oT) (hTI : IsTupOf2 s.heap TI (.ref i1) (.ref i2)) (st1 : St1 i s.heap) (st2 : St2 i s.heap) (l1 : i < n1) (l2 : i < n2)
    (hQ : ∀ x y h' tk, P1 i x → P2 i y → IsZipHeld h' z TI TO T true → St1 (i + 1) h' → St2 (i + 1) h' → IsTupOf2 h' s.heap.objs.size x y → h'.objs.size = s.heap.objs.size + 1 →
      (∀ c o, c ≠ z → c ≠ i1 → c ≠ i2 → s.heap.get? c = some o → h'.get? c = some o) → Q (some (.ref s.heap.objs.size)) { s with heap := h', toks := tk }) : wpAny (model prog w) A (pyNext (.ref z)) Q E s := by
  have hy : s.TypeIs (.ref z) "zip" := ⟨_, hz, rfl⟩
  unfold pyNext
  exact wpAny_bind (wpAny_attempt (wpAny_callSpecial?_slot (name := Str.ofString "__next__") hy F.slot_zip_next
    (wpAny_call_entry F.slot_zip_next hy F.entry_zip_next
      (zipH_item S D1 D2 hz hT hTI st1 st2 l1 l2 fun x y h' tk a1 a2 a3 a4 a5 a6 a7 a8 => wpAny_pure (hQ x y h' tk a1 a2 a3 a4 a5 a6 a7 a8)) (F.args_zip_next_1 _))))
theorem nextH_end {Q : Option Value → Shared → Prop} (S : ZipSep2 z TI TO i1 i2 fp1 fp2) (D1 : Draws prog w A.in1 i1 fp1 n1 P1 St1) (D2 : Draws prog w A.in1 i2 fp2 n2 P2 St2)
    (hz : IsZipHeld s.heap z TI TO T f) (hT : s.heap.get? T = some oT) (hTI : IsTupOf2 s.heap TI (.ref i1) (.ref i2)) (st1 : St1 i s.heap) (st2 : St2 i s.heap) (l1 : i ≤ n1) (l2 : i ≤ n2) (hend : i = n1 ∨ i = n2)
    (hQ : ∀ h' tk, (∀ c o, c ≠ z → c ≠ i1 → c ≠ i2 → s.heap.get? c = some o → h'.get? c = some o) → Q none { s with heap := h', toks := tk }) : wpAny (model prog w) A (pyNext (.ref z)) Q E s := by
  have hy : s.TypeIs (.ref z) "zip" := ⟨_, hz, rfl⟩
  unfold pyNext
  refine wpAny_bind (wpAny_attempt (wpAny_callSpecial?_slot (name := Str.ofString "__next__") hy F.slot_zip_next
    (wpAny_call_entry F.slot_zip_next hy F.entry_zip_next (zipH_end S D1 D2 hz hT hTI st1 st2 l1 l2 hend fun h' tk e hk he => ?_) (F.args_zip_next_1 _))))
  obtain ⟨o, ho, hc⟩ := he
  refine wpAny_bind (wpAny_isInstance (T := "StopIteration") (b := true) ⟨o, ho, hc⟩ isSubtype_stop ?_)
  exact wpAny_pure (hQ _ _ hk)
end
theorem isSeq_at {b : Bool} {h h' : Heap} {a : Addr} {its : Array Value} (e : isSeq b h a its) (k : ∀ o, h.get? a = some o → h'.get? a = some o) : isSeq b h' a its := by
  cases b
  · exact Heap.IsList.at e k
  · exact Heap.IsTuple.at e k
theorem isSeq_obj {b : Bool} {h : Heap} {a : Addr} {its : Array Value} (e : isSeq b h a its) : ∃ o, h.get? a = some o := by
  cases b
  · obtain ⟨o, h1, _⟩ := e
    exact ⟨o, h1⟩
  · obtain ⟨o, h1, _⟩ := e
    exact ⟨o, h1⟩
section
variable {prog : Program} {w : World}
theorem pairZip (b1 b2 : Bool) (z TI TO i1 i2 l1 l2 : Addr) (S : ZipSep2 z TI TO i1 i2 [i1, l1] [i2, l2]) (n1 : l1 ≠ i1) (n2 : l2 ≠ i2) (xs ys : Array Value) (sep : ∀ c, c ∈ ([z, TO, i1, i2] : List Addr) → c ≠ l1 ∧ c ≠ l2) :
    PairArg prog w "zip" z [z, TI, TO, i1, i2, l1, l2] [z, TO, i1, i2] (min xs.size ys.size) (fun i k v => xs[i]? = some k ∧ ys[i]? = some v)
      (fun h => IsZip h z TI TO .none ∧ IsTupOf2 h TI (.ref i1) (.ref i2) ∧ (∃ a b, IsTupOf2 h TO a b) ∧ isIter b1 h i1 l1 0 ∧ isIter b2 h i2 l2 0 ∧ isSeq b1 h l1 xs ∧ isSeq b2 h l2 ys) where
  type := fun s ok => ⟨_, ok.1, rfl⟩
  notDict := by decide
  keep := fun h h' ok k => by
    obtain ⟨hz, hTI, ⟨a, b, hTO⟩, h1, h2, q1, q2⟩ := ok
    exact ⟨k _ _ hz, k _ _ hTI, ⟨a, b, k _ _ hTO⟩, isIter_at h1 fun o e => k _ o e, isIter_at h2 fun o e => k _ o e, isSeq_at q1 fun o e => k _ o e, isSeq_at q2 fun o e => k _ o e⟩
  there := fun h ok b hb => by
    obtain ⟨hz, hTI, ⟨a, c, hTO⟩, h1, h2, q1, q2⟩ := ok
    obtain ⟨o1, h1, _⟩ := isIter_obj h1
    obtain ⟨o2, h2, _⟩ := isIter_obj h2
    obtain ⟨o3, h3⟩ := isSeq_obj q1
    obtain ⟨o4, h4⟩ := isSeq_obj q2
    simp only [List.mem_cons, List.not_mem_nil, or_false] at hb
    rcases hb with e | e | e | e | e | e | e <;> rw [e]
    · exact ⟨_, hz⟩
    · exact ⟨_, hTI⟩
    · exact ⟨_, hTO⟩
    · exact ⟨_, h1⟩
    · exact ⟨_, h2⟩
    · exact ⟨_, h3⟩
    · exact ⟨_, h4⟩
  sub := fun b hb => by
    simp only [List.mem_cons, List.not_mem_nil, or_false] at hb ⊢
    rcases hb with e | e | e | e <;> simp [e]
  noKeys := fun A s Q E hA ok h => getAttrOr_miss_zip ok.1 rfl rfl rfl zip_no_keys (by decide +kernel) hA h
  iter := fun A s d Q E hA ok hd hdf h => by
    obtain ⟨hz, hTI, ⟨a, b, hTO⟩, h1, h2, q1, q2⟩ := ok
    simp only [List.mem_cons, List.not_mem_nil, or_false, not_or] at hdf
    obtain ⟨dz, dTI, dTO, di1, di2, dl1, dl2⟩ := hdf
    have D1 := draws (prog := prog) (w := w) (A := A.in1) b1 (zero_size hA) i1 l1 n1 xs
    have D2 := draws (prog := prog) (w := w) (A := A.in1) b2 (zero_size hA) i2 l2 n2 ys
    refine wpAny_pyIter_zip hz (h z [z, TO, i1, i2] (fun i h => IsTupOf2 h TI (.ref i1) (.ref i2) ∧ (isIter b1 h i1 l1 i ∧ isSeq b1 h l1 xs) ∧ (isIter b2 h i2 l2 i ∧ isSeq b2 h l2 ys) ∧
      ((IsZip h z TI TO .none ∧ ∃ a b, IsTupOf2 h TO a b) ∨ ∃ T f oT, IsZipHeld h z TI TO T f ∧ h.get? T = some oT ∧ T ≠ z ∧ T ≠ i1 ∧ T ≠ i2 ∧ T ≠ d)) s.heap s.toks ?_
      ⟨hTI, ⟨h1, q1⟩, ⟨h2, q2⟩, .inl ⟨hz, a, b, hTO⟩⟩ (fun _ _ e => e) fun b hb => .inl hb)
    refine ⟨fun hm => ?_, fun i g1 g2 st k => ?_, fun i s1 Q1 E1 hi st hds hQ => ?_, fun s1 Q1 E1 st hQ => ?_⟩
    · simp only [List.mem_cons, List.not_mem_nil, or_false] at hm
      rcases hm with e | e | e | e
      · exact dz e
      · exact dTO e
      · exact di1 e
      · exact di2 e
    · obtain ⟨hTI, ⟨h1, q1⟩, ⟨h2, q2⟩, hz⟩ := st
      refine ⟨k _ _ (Ne.symm dTI) hTI, ⟨isIter_at h1 fun o e => k _ o (Ne.symm di1) e, isSeq_at q1 fun o e => k _ o (Ne.symm dl1) e⟩, ⟨isIter_at h2 fun o e => k _ o (Ne.symm di2) e, isSeq_at q2 fun o e => k _ o (Ne.symm dl2) e⟩, ?_⟩
      rcases hz with ⟨hz, a, b, hTO⟩ | ⟨T, f, oT, hz, hT, r1, r2, r3, r4⟩
      · exact .inl ⟨k _ _ (Ne.symm dz) hz, a, b, k _ _ (Ne.symm dTO) hTO⟩
      · exact .inr ⟨T, f, oT, k _ _ (Ne.symm dz) hz, k _ _ r4 hT, r1, r2, r3, r4⟩
    · obtain ⟨hTI, st1, st2, hz⟩ := st
      have hi1 : i < xs.size := Nat.lt_of_lt_of_le hi (Nat.min_le_left ..)
      have hi2 : i < ys.size := Nat.lt_of_lt_of_le hi (Nat.min_le_right ..)
      have lt : ∀ {c o}, s1.heap.get? c = some o → s1.heap.objs.size ≠ c := fun e => Nat.ne_of_gt (Heap.lt_size e)
      have m1 : s1.heap.objs.size ≠ i1 := let ⟨_, e, _⟩ := isIter_obj st1.1; lt e
      have m2 : s1.heap.objs.size ≠ i2 := let ⟨_, e, _⟩ := isIter_obj st2.1; lt e
      rcases hz with ⟨hz, a, b, hTO⟩ | ⟨T, f, oT, hz, hT, r1, r2, r3, r4⟩
      · refine wpAny_pyNext_zipD2_item S D1 D2 hz hTI hTO st1 st2 hi1 hi2 fun x y h' tk e1 e2 a1 a2 a3 a4 a5 a6 hk => ?_
        exact hQ s1.heap.objs.size x y h' tk ⟨e1, e2⟩ (.inl ⟨_, a5, rfl, _, rfl⟩)
          ⟨hk _ _ S.TIz S.TITO S.TIi1 S.TIi2 hTI, a3, a4, .inr ⟨s1.heap.objs.size, false, _, a1, a5, lt hz, m1, m2, Nat.ne_of_gt hds⟩⟩
          fun c o hc e => hk c o (fun x => hc (by simp [x])) (fun x => hc (by simp [x])) (fun x => hc (by simp [x])) (fun x => hc (by simp [x])) e
      · refine nextH_item S D1 D2 hz hT hTI st1 st2 hi1 hi2 fun x y h' tk e1 e2 a1 a3 a4 a5 a6 hk => ?_
        exact hQ s1.heap.objs.size x y h' tk ⟨e1, e2⟩ (.inl ⟨_, a5, rfl, _, rfl⟩)
          ⟨hk _ _ S.TIz S.TIi1 S.TIi2 hTI, a3, a4, .inr ⟨T, true, oT, a1, hk _ _ r1 r2 r3 hT, r1, r2, r3, r4⟩⟩
          fun c o hc e => hk c o (fun x => hc (by simp [x])) (fun x => hc (by simp [x])) (fun x => hc (by simp [x])) e
    · obtain ⟨hTI, st1, st2, hz⟩ := st
      have hend : min xs.size ys.size = xs.size ∨ min xs.size ys.size = ys.size := by omega
      rcases hz with ⟨hz, a, b, hTO⟩ | ⟨T, f, oT, hz, hT, r1, r2, r3, r4⟩
      · exact wpAny_pyNext_zipD2_end S D1 D2 hz hTI hTO st1 st2 (Nat.min_le_left ..) (Nat.min_le_right ..) hend fun h' tk hk => hQ h' tk fun c o hc e => hk c o (fun x => hc (by simp [x])) (fun x => hc (by simp [x])) (fun x => hc (by simp [x])) (fun x => hc (by simp [x])) e
      · exact nextH_end S D1 D2 hz hT hTI st1 st2 (Nat.min_le_left ..) (Nat.min_le_right ..) hend fun h' tk hk => hQ h' tk fun c o hc e => hk c o (fun x => hc (by simp [x])) (fun x => hc (by simp [x])) (fun x => hc (by simp [x])) e
end
/-! ### dict(zip(t, u)) -/
section
variable {X : Cx}
def tDZip (K : PySem.W.Frag) (b1 b2 : Bool) (ta : TA) : TE := fun σ H Q => ta σ H fun vs H1 => ∃ (a b : Addr) (ks : List (Addr × List Key)) (us : List V), vs = [.ref a, .ref b] ∧ Sq b1 K H1 a (ks.map fun q => V.ref q.1) ∧ Sq b2 K H1 b us ∧ ks.length = us.length ∧
  (∀ q, q ∈ ks → H1 q.1 = some (.tup (q.2.map kV))) ∧ (ks.map (·.2)).Nodup ∧ ∀ p, H1 p = none → Q (.ref p) (upd H1 p (.dT ((ks.map (·.2)).zip us)))
theorem storedAll_new {κ : Type} [DecidableEq κ] : ∀ (ps xs : List (κ × Addr × Value)), ((xs ++ ps).map (·.1)).Nodup → storedAllH xs ps = xs ++ ps
  | [], xs, _ => by rw [List.append_nil]; rfl
  | p :: ps, xs, h => by
    have hn : atKey xs p.1 = none := by
      unfold atKey
      have : xs.find? (fun x => decide (x.1 = p.1)) = none := List.find?_eq_none.mpr fun x hx => by
        simp only [decide_eq_true_eq]
        intro e
        rw [List.map_append, List.map_cons] at h
        exact (List.nodup_append.mp h).2.2 x.1 (List.mem_map.mpr ⟨x, hx, rfl⟩) p.1 List.mem_cons_self e
      rw [this]; rfl
    have e : storedH xs p.1 p.2.1 p.2.2 = xs ++ [p] := storedH_new hn _ _
    show storedAllH (storedH xs p.1 p.2.1 p.2.2) ps = _
    rw [e, storedAll_new ps (xs ++ [p]) (by simpa using h)]
    simp
theorem mk_KT {H : Hp} : ∀ (ks : List (Addr × List Key)) (us : List V) (its : List Value), (∀ q, q ∈ ks → H q.1 = some (.tup (q.2.map kV))) → Vals us its →
    KT H ((ks.map (·.2)).zip us) (List.zipWith (fun (q : Addr × List Key) v => (q.2, q.1, v)) ks its)
  | [], _, _, _, _ => .nil
  | _ :: _, _, _, _, .nil => .nil
  | q :: ks, _, _, h, .cons r t => .cons ⟨rfl, h q List.mem_cons_self, r⟩ (mk_KT ks _ _ (fun p hp => h p (List.mem_cons_of_mem _ hp)) t)
theorem pe_dzip (b1 b2 : Bool) {e1 e2 : Expr} {ta : TA} {p p2 pos pos2 : Pos} (hgD : Gl X "dict") (hmD : X.mg "dict" = none) (hgZ : Gl X "zip") (hmZ : X.mg "zip" = none) (hc : X.calm = true) (hu : X.A.units + 64 < cLine) (ha : PA X [e1, e2] ta)
    (hs : starEach [e1, e2] X.env = (false, eval e1 X.env) :: starEach [e2] X.env := by rfl) (hpl : (backTo pos2 (starEach [e2] X.env)).any (·.1) = false := by rfl)
    (na : starEach [Expr.Call (.Name "zip" p2) [e1, e2] [] pos2] X.env = (false, eval (.Call (.Name "zip" p2) [e1, e2] [] pos2) X.env) :: starEach [] X.env := by rfl) :
    PE X (.Call (.Name "dict" p) [.Call (.Name "zip" p2) [e1, e2] [] pos2] [] pos) (tDZip X.K b1 b2 ta) := by
  refine ⟨fun pins s σ H Q I h => ?_⟩
  refine Call_ (ld_blt I hgD hmD PyProof.Rows.boot_dict (PyProof.Rows.callWith_type1 (args_cons (Call_ (ld_blt I hgZ hmZ PyProof.Rows.boot_zip (PyProof.Rows.callWith_type1 (thn (ha.run pos2 pins s σ H _ I h) fun us0 s1 ⟨vs, H1, I1, r1, q1⟩ => ?_) hs hpl))) na) na rfl))
  obtain ⟨a, b, ks, us, ex, hqx, hqy, hlen, hks, hnd, q⟩ := q1
  subst ex
  cases r1 with
  | cons r rr =>
    cases rr with
    | cons r' rr =>
      cases rr
      cases r
      cases r'
      obtain ⟨its, rv, p1, l1⟩ := sq_of I1 hqx
      obtain ⟨its2, rv2, p2, l2⟩ := sq_of I1 hqy
      have eits : its = ks.map fun q => Value.ref q.1 := by
        have e : ks.map (fun q => V.ref q.1) = (ks.map (·.1)).map V.ref := by rw [List.map_map]; rfl
        rw [e] at rv
        have := refs_at rv
        rw [this, List.map_map]; rfl
      subst eits
      have le2 : us.length = its2.length := rv2.length
      refine zip_begins2 (begins b1 a (ks.map fun q => Value.ref q.1).toArray) (begins b2 b its2.toArray) p1 p2 fun h' hz hTI hTO h1 h2 hsz hk => args_nil ?_
      have I2 : Inv X pins σ H1 { s1 with heap := h' } := I1.kept (t' := s1.toks) hk
      have S : ZipSep2 (s1.heap.objs.size + 4) (s1.heap.objs.size + 2) (s1.heap.objs.size + 3) s1.heap.objs.size (s1.heap.objs.size + 1) [s1.heap.objs.size, a] [s1.heap.objs.size + 1, b] :=
        zip_sep2 (fun c hc => by rw [List.mem_singleton.mp hc]; exact l1) (fun c hc => by rw [List.mem_singleton.mp hc]; exact l2)
      have wr_ge : ∀ c, c ∈ ([s1.heap.objs.size + 4, s1.heap.objs.size + 3, s1.heap.objs.size, s1.heap.objs.size + 1] : List Addr) → s1.heap.objs.size ≤ c := fun c hcm => by
        have e' : c = s1.heap.objs.size + 4 ∨ c = s1.heap.objs.size + 3 ∨ c = s1.heap.objs.size ∨ c = s1.heap.objs.size + 1 := by simpa using hcm
        rcases e' with z | z | z | z
        · rw [z]; exact Nat.le_add_right _ _
        · rw [z]; exact Nat.le_add_right _ _
        · rw [z]; exact Nat.le_refl _
        · rw [z]; exact Nat.le_add_right _ _
      have hz1 : (ks.map fun q => V.ref q.1).length ≤ sizeLine := by
        cases b1
        · exact (I1.list hqx).choose_spec.2.2
        · exact (I1.tuple hqx).choose_spec.2.2
      rw [List.length_map] at hz1
      have hA : X.A.handled = none := I.ok.hd hc
      have PZ := pairZip (prog := X.prog) (w := X.w) b1 b2 (s1.heap.objs.size + 4) (s1.heap.objs.size + 2) (s1.heap.objs.size + 3) s1.heap.objs.size (s1.heap.objs.size + 1) a b S (Nat.ne_of_lt l1) (Nat.ne_of_lt (Nat.lt_succ_of_lt l2))
        (ks.map fun q => Value.ref q.1).toArray its2.toArray (fun c hcm => ⟨fun z => absurd (Nat.lt_of_lt_of_le l1 (by have := wr_ge c hcm; rw [z] at this; exact this)) (Nat.lt_irrefl _), fun z => absurd (Nat.lt_of_lt_of_le l2 (by have := wr_ge c hcm; rw [z] at this; exact this)) (Nat.lt_irrefl _)⟩)
      have hmin : min (ks.map fun q => Value.ref q.1).toArray.size its2.toArray.size = ks.length := by
        rw [List.size_toArray, List.size_toArray, List.length_map]; omega
      rw [hmin] at PZ
      let ps : List (List Key × Addr × Value) := List.zipWith (fun (q : Addr × List Key) v => (q.2, q.1, v)) ks its2
      have hps : ps.length = ks.length := by show (List.zipWith _ ks its2).length = _; rw [List.length_zipWith]; omega
      have hps1 : ps.map (·.1) = ks.map (·.2) := by
        show (List.zipWith _ ks its2).map _ = _
        have go : ∀ (ks : List (Addr × List Key)) (vs : List Value), ks.length ≤ vs.length → (List.zipWith (fun (q : Addr × List Key) v => (q.2, q.1, v)) ks vs).map (·.1) = ks.map (·.2) := by
          intro ks
          induction ks with
          | nil => intro _ _; rfl
          | cons q ks ih =>
            intro vs h
            cases vs with
            | nil => simp at h
            | cons v vs =>
              rw [List.zipWith_cons_cons, List.map_cons, List.map_cons, ih vs (by simpa using h)]
        exact go ks its2 (by omega)
      refine call_dict_pairsH (knd := tupleKind (mixKind X.prog X.w)) (ps := ps) PZ hA (show X.A.units + 1 + 1 < cLine by omega) ⟨hz, hTI, ⟨_, _, hTO⟩, isIter_new h1, isIter_new h2, isSeq_at p1 fun o e => hk _ o e, isSeq_at p2 fun o e => hk _ o e⟩
        ⟨hps, fun i key v hr => ?_⟩ (fun h3 hk3 x hx => ?_) hz1 fun h3 tk hd hk3 => ?_
      · obtain ⟨hr1, hr2⟩ := hr
        rw [List.getElem?_toArray, List.getElem?_map] at hr1
        rw [List.getElem?_toArray] at hr2
        cases e : ks[i]? with
        | none => rw [e] at hr1; cases hr1
        | some q =>
          rw [e] at hr1
          refine ⟨q.2, q.1, ?_, (Option.some.inj hr1).symm⟩
          show (List.zipWith _ ks its2)[i]? = _
          rw [List.getElem?_zipWith, e, hr2]
      · obtain ⟨i, hi⟩ := List.mem_iff_getElem?.mp hx
        have hi' : (List.zipWith (fun (q : Addr × List Key) v => (q.2, q.1, v)) ks its2)[i]? = some x := hi
        rw [List.getElem?_zipWith] at hi'
        cases e : ks[i]? with
        | none => rw [e] at hi'; cases hi'
        | some q =>
          cases e2 : its2[i]? with
          | none => rw [e, e2] at hi'; cases hi'
          | some v =>
            rw [e, e2] at hi'
            cases hi'
            have hq := hks q (List.mem_of_getElem? e)
            obtain ⟨o, its3, n3, g1, g2, g3, g4⟩ := key_of I1.hok hq
            have lt := Heap.lt_size g1
            exact ⟨o, its3, n3, hk3 q.1 o (Nat.ne_of_lt (Nat.lt_of_lt_of_le lt (by rw [hsz]; omega))) (fun hm => absurd (Nat.lt_of_lt_of_le lt (wr_ge _ hm)) (Nat.lt_irrefl _)) (hk _ _ g1), g2, g3, g4⟩
      · have hf : ∀ c, c ∈ ([s1.heap.objs.size + 4, s1.heap.objs.size + 3, s1.heap.objs.size, s1.heap.objs.size + 1] : List Addr) → FpOk X pins H1 c := fun c hcm => I1.fpOk (wr_ge c hcm) (I1.hok.fresh (wr_ge c hcm))
        have kt := mk_KT ks us its2 hks rv2
        have hm : (h'.objs.size == sysModules) = false := beq_eq_false_iff_ne.mpr (Ne.symm (Nat.ne_of_lt I2.big))
        have hn : H1 h'.objs.size = none := I2.hok.fresh (Nat.le_refl _)
        have en : storedAllH [] ps = ps := by
          rw [storedAll_new ps [] (by rw [List.nil_append, hps1]; exact hnd), List.nil_append]
        rw [en] at hd
        obtain ⟨o, es, ep, g1, g2, g3, g4, _, g5⟩ := hd
        have new : ObjOk X.prog X.w (upd H1 h'.objs.size (.dT ((ks.map (·.2)).zip us))) h3 h'.objs.size (.dT ((ks.map (·.2)).zip us)) := by
          refine ⟨?_, hm, ps, kt.keeps fun c ys ec => by rw [upd_ne (ne_of_none ec hn)]; exact ec, o, es, ep, g1, g2, g3, g4, g5⟩
          rw [List.length_zip, List.length_map]; omega
        have I3 : Inv X pins σ (upd H1 h'.objs.size (.dT ((ks.map (·.2)).zip us))) { s1 with heap := h3, toks := tk } :=
          I2.turnedNew (t' := tk) (ch := [s1.heap.objs.size + 4, s1.heap.objs.size + 3, s1.heap.objs.size, s1.heap.objs.size + 1]) (fun c o hb e => hk3 c o hb e) hf (Nat.le_refl _) new
        exact ⟨.ref h'.objs.size, _, I3, rfl, q _ hn⟩
/-! ### {t: v}, t a tuple -/
def tDispT (tk tv : TE) : TE := fun σ H Q => ∀ p, H p = none → tk σ (upd H p (.dT [])) fun y H1 => tv σ H1 fun z H2 => ∃ (b : Addr) (k : List Key), y = .ref b ∧ H2 b = some (.tup (k.map kV)) ∧ H2 p = some (.dT []) ∧ Q (.ref p) (upd H2 p (.dT [(k, z)]))
theorem pe_dispT {ke ve : Expr} {pos : Pos} {tk tv : TE} (hu : X.A.units + 64 < cLine) (hk : PE X ke tk) (hv : PE X ve tv) : PE X (.Dict [some ke] [ve] pos) (tDispT tk tv) := by
  refine ⟨fun pins s σ H Q I q => ?_⟩
  have hn := I.hok.fresh (Nat.le_refl s.heap.objs.size)
  have I1 := I.laid (a := s.heap.objs.size) (o := .dT []) (h' := s.heap.push { cls := .type "dict", data := .dict #[] }) (t' := s.toks) (fun _ _ q => Heap.get?_push_of_some _ q) (Nat.le_refl _) (dt_empty s.heap I.big)
  have hp := pps_cons (pos := pos) hk hv pps_nil
  rw [arm_eval_Dict, zip_pairTrees [some ke] [ve] X.env pos rfl rfl, dictDisplay_pairs _ (fun z => by cases z) (Nat.le_of_ble_eq_true rfl)]
  refine wpAny_bind (wpAny_standAt (wpAny_bind (wpAny_subDictH (knd := tupleKind (mixKind X.prog X.w)) (Q := fun d s' => wpAny (model X.prog X.w) X.A (pure (Value.ref d)) (EP X pins σ Q) X.xe s') (show X.A.units < cLine by omega) (Nat.le_of_ble_eq_true rfl)
    (thn (hp.run pins _ σ _ (fun ps H2 => match ps with
      | [(y, z)] => ∃ (b : Addr) (k : List Key), y = .ref b ∧ H2 b = some (.tup (k.map kV)) ∧ H2 s.heap.objs.size = some (.dT []) ∧ Q (.ref s.heap.objs.size) (upd H2 s.heap.objs.size (.dT [(k, z)]))
      | _ => False) I1 (q _ hn)) fun ws s2 ⟨ps, H2, I2, rel, e⟩ => ?_))))
  match ps, rel, e with
  | [(y, z)], rel, e =>
    obtain ⟨b, k, rfl, eb, e, q2⟩ := e
    cases rel with
    | @cons _ rr _ _ r1 r2 =>
      cases r2
      obtain ⟨u1, u2⟩ := rr
      obtain ⟨h1, h2⟩ := r1
      have e1 : u1 = Value.ref b := h1
      subst e1
      obtain ⟨_, hs, xs0, r0, dd⟩ := dt_of I2.hok e
      cases r0
      refine ⟨[(k, b, u2)], ⟨rfl, rfl, key_of I2.hok eb, True.intro⟩, dd, fun h' tk dd' sb => wpAny_pure ?_⟩
      have es : storedAllH ([] : List (List Key × Addr × Value)) [(k, b, u2)] = [(k, b, u2)] := rfl
      rw [es] at dd'
      obtain ⟨o, es, ep, g1, g2, g3, g4, _, g5⟩ := dd'
      have I3 := d_write (t' := tk) (ob := .dT [(k, z)]) I2 (by rw [e]; exact True.intro) sb ⟨o, g1⟩ ⟨by show 1 ≤ sizeLine; decide, hs, [(k, b, u2)], .cons ⟨rfl, by rw [upd_ne (ne_of eb e fun z => nomatch z)]; exact eb, h2⟩ .nil, o, es, ep, g1, g2, g3, g4, g5⟩
      exact ⟨.ref s.heap.objs.size, _, I3, rfl, q2⟩
end
end G
set_option Elab.async false
set_option linter.all false
set_option maxRecDepth 100000
set_option maxHeartbeats 4000000
/-! The reading of a def's body over data: what each expression gives, as a Lean value; what is known is kept through calls that change only told places. -/
namespace G
open PySem PySem.Spec PyProof.Rows L2 PySem.W
/-- what is told of a value; kept where more is known of the heap -/
structure Sl where
  p : V → Hp → Prop
  mono : ∀ {v : V} {H H' : Hp}, Same H H' → p v H → p v H'
/-- .. of a changing object's content -/
structure Lo where
  p : HO → Hp → Prop
  mono : ∀ {o : HO} {H H' : Hp}, Same H H' → p o H → p o H'
section
variable {α : Type} [DecidableEq α] [Datum α]
def Is (K : PySem.W.Frag) (x : α) : Sl := ⟨fun v H => Rp K H v x, fun e h => h.same e⟩
def Ex (K : PySem.W.Frag) (A : α → Prop) : Sl := ⟨fun v H => ∃ x, A x ∧ Rp K H v x, fun e h => h.imp fun _ q => ⟨q.1, q.2.same e⟩⟩
def LoL (K : PySem.W.Frag) (xs : List α) : Lo := ⟨fun o H => ∃ vs, o = .lst vs ∧ RpA K H vs xs, fun e h => h.imp fun _ q => ⟨q.1, q.2.same e⟩⟩
end
/-- the very value -/
def Vl (v : V) : Sl := ⟨fun w _ => w = v, fun _ h => h⟩
/-- what others may change while a def runs: the objects at M, of which J stays true -/
structure Wd where
  M : List Addr
  J : Hp → Prop
  jd : ∀ {H H' : Hp}, (∀ b, b ∈ M → H' b = H b) → J H → J H'
  jm : ∀ {H : Hp}, J H → ∀ b, b ∈ M → H b ≠ none
def cut (A : List Addr) (H : Hp) : Hp := fun b => if b ∈ A then none else H b
def Le (M : List Addr) (H H' : Hp) : Prop := ∀ b o, b ∉ M → H b = some o → H' b = some o
/-- a def's own frame of knowledge: A: objects of which nothing may be told; H0: the entry; X: values held aside -/
structure Bs where
  W : Wd
  A : List Addr
  H0 : Hp
  X : List (V × Sl)
abbrev Ls := List (Addr × Lo)
def vw (B : Bs) (L : Ls) (H : Hp) : Hp := cut (L.map (·.1) ++ B.A) H
/-- what may be asked of the heap at once (the own changing lists too) -/
def lw (B : Bs) (H : Hp) : Hp := cut B.W.M H
structure Ok (W : Wd) (A : List Addr) (H : Hp) : Prop where
  sub : ∀ b, b ∈ W.M → b ∈ A
  j : W.J H
  av : ∀ a, a ∈ A → H a ≠ none
structure Hd (B : Bs) (L : Ls) (H : Hp) : Prop where
  ok : Ok B.W B.A H
  le : Le B.W.M B.H0 H
  new : ∀ q, q ∈ L → B.H0 q.1 = none ∧ q.1 ∉ B.A
  nd : (L.map (·.1)).Nodup
  lo : ∀ q, q ∈ L → ∃ o, H q.1 = some o ∧ q.2.p o (vw B L H)
  x : ∀ q, q ∈ B.X → q.2.p q.1 (vw B L H)
structure Sg (g : List (Option Sl)) (s : L2.St) (H : Hp) : Prop where
  len : s.length = g.length
  at_ : ∀ (i : Nat) (t : Sl), g[i]? = some (some t) → ∃ v, s[i]? = some (some v) ∧ t.p v H
structure At (B : Bs) (g : List (Option Sl)) (L : Ls) (s : L2.St) (H : Hp) : Prop where
  hd : Hd B L H
  sg : Sg g s (vw B L H)
section
variable {M A : List Addr} {H H' H1 H2 : Hp} {B : Bs} {L : Ls} {g : List (Option Sl)} {s : L2.St}
theorem cut_in {a : Addr} (h : a ∈ A) : cut A H a = none := by unfold cut; rw [if_pos h]
theorem cut_out {a : Addr} (h : a ∉ A) : cut A H a = H a := by unfold cut; rw [if_neg h]
theorem cut_same : Same (cut A H) H := fun b o h => by
  by_cases hb : b ∈ A
  · rw [cut_in hb] at h; cases h
  · rw [cut_out hb] at h; exact h
theorem cut_of {b : Addr} {o : HO} (h : cut A H b = some o) : b ∉ A ∧ H b = some o := by
  by_cases hb : b ∈ A
  · rw [cut_in hb] at h; cases h
  · rw [cut_out hb] at h; exact ⟨hb, h⟩
theorem cut_sub {A' : List Addr} (h : ∀ a, a ∈ A' → a ∈ A) : Same (cut A H) (cut A' H) := fun b o q => by
  obtain ⟨h1, h2⟩ := cut_of q
  rw [cut_out fun z => h1 (h b z)]; exact h2
theorem cut_le (sub : ∀ b, b ∈ M → b ∈ A) (e : Le M H H') : Same (cut A H) (cut A H') := fun b o q => by
  obtain ⟨h1, h2⟩ := cut_of q
  rw [cut_out h1]; exact e b o (fun z => h1 (sub b z)) h2
theorem Le.refl (M : List Addr) (H : Hp) : Le M H H := fun _ _ _ h => h
theorem Le.trans (a : Le M H H1) (b : Le M H1 H2) : Le M H H2 := fun c o n h => b c o n (a c o n h)
theorem Le.laid {p : Addr} {o : HO} (hp : H p = none) : Le M H (upd H p o) := fun b u _ h => by rw [upd_ne (ne_of_none h hp)]; exact h
theorem Same.le (e : Same H H') : Le M H H' := fun b o _ h => e b o h
theorem Wd.le {W : Wd} (h : W.J H) (e : ∀ b, b ∈ W.M → H' b = H b) : W.J H' := W.jd e h
theorem Ok.laid {W : Wd} {p : Addr} {o : HO} (h : Ok W A H) (hp : H p = none) : Ok W A (upd H p o) :=
  ⟨h.sub, W.jd (fun b hb => upd_ne (fun z => h.av b (h.sub b hb) (by rw [z]; exact hp))) h.j, fun a ha => by
    rw [upd_ne (fun z => h.av a ha (by rw [z]; exact hp))]; exact h.av a ha⟩
theorem Ok.mono {W : Wd} {A' : List Addr} (h : Ok W A H) (h1 : ∀ b, b ∈ W.M → b ∈ A') (h2 : ∀ a, a ∈ A' → a ∈ A) : Ok W A' H := ⟨h1, h.j, fun a ha => h.av a (h2 a ha)⟩
theorem Hd.ms (h : Hd B L H) : ∀ b, b ∈ B.W.M → b ∈ L.map (·.1) ++ B.A := fun b hb => List.mem_append_right _ (h.ok.sub b hb)
theorem Hd.full (h : Hd B L H) : Ok B.W (L.map (·.1) ++ B.A) H := ⟨h.ms, h.ok.j, fun a ha => by
  rcases List.mem_append.mp ha with q | q
  · obtain ⟨t, ht, rfl⟩ := List.mem_map.mp q
    obtain ⟨o, e, _⟩ := h.lo t ht
    rw [e]; exact fun z => by cases z
  · exact h.ok.av a q⟩
theorem Hd.nm (h : Hd B L H) : ∀ q, q ∈ L → q.1 ∉ B.W.M := fun q hq z => (h.new q hq).2 (h.ok.sub _ z)
theorem Hd.same (h : Hd B L H) (e : Le B.W.M H H') : Same (vw B L H) (vw B L H') := cut_le h.ms e
theorem Hd.lsame (e : Le B.W.M H H') : Same (lw B H) (lw B H') := cut_le (fun _ h => h) e
theorem Hd.vl (h : Hd B L H) : Same (vw B L H) (lw B H) := cut_sub h.ms
theorem vw_same : Same (vw B L H) H := cut_same
theorem lw_same : Same (lw B H) H := cut_same
/-- behind what changed told places alone -/
theorem Hd.step (h : Hd B L H) (e : Le B.W.M H H') (j : B.W.J H') : Hd B L H' where
  ok := ⟨h.ok.sub, j, fun a ha => by
    by_cases hm : a ∈ B.W.M
    · exact B.W.jm j a hm
    · cases q : H a with
      | none => exact absurd q (h.ok.av a ha)
      | some o => rw [e a o hm q]; exact fun z => by cases z⟩
  le := h.le.trans e
  new := h.new
  nd := h.nd
  lo := fun q hq => by
    obtain ⟨o, e1, e2⟩ := h.lo q hq
    exact ⟨o, e _ _ (h.nm q hq) e1, q.2.mono (h.same e) e2⟩
  x := fun q hq => q.2.mono (h.same e) (h.x q hq)
theorem Sg.mono (h : Sg g s H) (e : Same H H') : Sg g s H' := ⟨h.len, fun i t q => by
  obtain ⟨v, e1, e2⟩ := h.at_ i t q
  exact ⟨v, e1, t.mono e e2⟩⟩
theorem At.step (h : At B g L s H) (e : Le B.W.M H H') (j : B.W.J H') : At B g L s H' := ⟨h.hd.step e j, h.sg.mono (h.hd.same e)⟩
theorem Hd.laid {p : Addr} {o : HO} (h : Hd B L H) (hp : H p = none) : Hd B L (upd H p o) := h.step (Le.laid hp) (h.ok.laid hp).j
theorem At.laid {p : Addr} {o : HO} (h : At B g L s H) (hp : H p = none) : At B g L s (upd H p o) := h.step (Le.laid hp) (h.hd.ok.laid hp).j
theorem Hd.fresh {p : Addr} (h : Hd B L H) (hp : H p = none) : p ∉ L.map (·.1) ++ B.A := fun z => h.full.av p z hp
theorem Hd.at_new {p : Addr} {o : HO} (h : Hd B L H) (hp : H p = none) : vw B L (upd H p o) p = some o := by
  unfold vw
  rw [cut_out (h.fresh hp)]; exact upd_same
theorem Hd.grow {p : Addr} {o : HO} (h : Hd B L H) (hp : H p = none) : Same (vw B L H) (vw B L (upd H p o)) := h.same (Le.laid hp)
theorem Hd.h0 {p : Addr} (h : Hd B L H) (hp : H p = none) : B.H0 p = none := by
  cases q : B.H0 p with
  | none => rfl
  | some o =>
    have hm : p ∉ B.W.M := fun z => h.ok.av p (h.ok.sub p z) hp
    have := h.le p o hm q
    rw [hp] at this; cases this
/-- a new changing object -/
theorem Hd.add {p : Addr} {o : HO} {t : Lo} (h : Hd B L H) (h0 : B.H0 p = none) (hL : p ∉ L.map (·.1) ++ B.A) (ho : H p = some o) (ht : t.p o (cut (p :: (L.map (·.1) ++ B.A)) H))
    (hl : ∀ q, q ∈ L → ∃ o, H q.1 = some o ∧ q.2.p o (cut (p :: (L.map (·.1) ++ B.A)) H)) (hx : ∀ q, q ∈ B.X → q.2.p q.1 (cut (p :: (L.map (·.1) ++ B.A)) H)) : Hd B ((p, t) :: L) H where
  ok := h.ok
  le := h.le
  new := fun q hq => by
    rcases List.mem_cons.mp hq with e | hq
    · subst e; exact ⟨h0, fun z => hL (List.mem_append_right _ z)⟩
    · exact h.new q hq
  nd := List.nodup_cons.mpr ⟨fun z => hL (List.mem_append_left _ z), h.nd⟩
  lo := fun q hq => by
    rcases List.mem_cons.mp hq with e | hq
    · subst e; exact ⟨o, ho, ht⟩
    · exact hl q hq
  x := hx
end
end G
set_option Elab.async false
set_option linter.all false
set_option maxRecDepth 100000
set_option maxHeartbeats 4000000
/-! The judgements over data, and their rules: part a. -/
namespace G
open PySem PySem.Spec PyProof.Rows L2 PySem.W
abbrev Slots := List (Option Sl)
def Y (B : Bs) (g : Slots) (L : Ls) (te : TE) (t : Sl) : Prop := ∀ s H, At B g L s H → ∀ Q : VK, (∀ v H', Le B.W.M H H' → B.W.J H' → t.p v (vw B L H') → Q v H') → te s H Q
/-- for what is asked at once: the own changing lists are seen too -/
def YL (B : Bs) (g : Slots) (L : Ls) (te : TE) (t : Sl) : Prop := ∀ s H, At B g L s H → ∀ Q : VK, (∀ v H', Le B.W.M H H' → B.W.J H' → t.p v (lw B H') → Q v H') → te s H Q
/-- a list, perhaps a changing one; its items are data -/
def YQ {α : Type} [DecidableEq α] [Datum α] (K : PySem.W.Frag) (B : Bs) (g : Slots) (L : Ls) (te : TE) (xs : List α) : Prop :=
  ∀ s H, At B g L s H → ∀ Q : VK, (∀ v H', Le B.W.M H H' → B.W.J H' → (∃ a vs, v = .ref a ∧ SqL K (lw B H') a vs ∧ RpA K (vw B L H') vs xs) → Q v H') → te s H Q
def Bs.add (B : Bs) (p : Addr) : Bs := ⟨B.W, p :: B.A, B.H0, B.X⟩
/-- a new list -/
def YF {α : Type} [DecidableEq α] [Datum α] (K : PySem.W.Frag) (B : Bs) (g : Slots) (L : Ls) (te : TE) (R : List α → Prop) : Prop :=
  ∀ s H, At B g L s H → ∀ Q : VK, (∀ p vs xs H', H p = none → H' p = some (.lst vs) → At (B.add p) g L s H' → Le B.W.M H H' → RpA K (vw (B.add p) L H') vs xs → R xs → Q (.ref p) H') → te s H Q
def YP (B : Bs) (g : Slots) (L : Ls) (tt : TT) (C : Bool → Prop) : Prop := ∀ s H, At B g L s H → ∀ Q : Bool → Hp → Prop, (∀ c H', Le B.W.M H H' → B.W.J H' → C c → Q c H') → tt s H Q
abbrev YT (B : Bs) (g : Slots) (L : Ls) (tt : TT) (c : Bool) : Prop := YP B g L tt (· = c)
def YA (B : Bs) (g : Slots) (L : Ls) (ta : TA) (ts : List Sl) : Prop := ∀ s H, At B g L s H → ∀ Q : List V → Hp → Prop, (∀ vs H', Le B.W.M H H' → B.W.J H' → Paired (fun v (t : Sl) => t.p v (vw B L H')) vs ts → Q vs H') → ta s H Q
def YAL (B : Bs) (g : Slots) (L : Ls) (ta : TA) (ts : List Sl) : Prop := ∀ s H, At B g L s H → ∀ Q : List V → Hp → Prop, (∀ vs H', Le B.W.M H H' → B.W.J H' → Paired (fun v (t : Sl) => t.p v (lw B H')) vs ts → Q vs H') → ta s H Q
/-- what an assigned value may be: from the own lists to its description and the own lists -/
abbrev Oc := Ls → Sl → Ls → Prop
def Gw (L L1 : Ls) (H : Hp) : Prop := ∀ q, q ∈ L1 → q ∈ L ∨ H q.1 = none
def YO (B : Bs) (g : Slots) (L : Ls) (te : TE) (O : Oc) : Prop := ∀ s H, At B g L s H → ∀ Q : VK, (∀ v H' t L1, O L t L1 → At B g L1 s H' → Le B.W.M H H' → Gw L L1 H → t.p v (vw B L1 H') → Q v H') → te s H Q
def oDat (t : Sl) : Oc := fun L u L1 => u = t ∧ L1 = L
def oEx {α : Type} [DecidableEq α] [Datum α] (K : PySem.W.Frag) (A : α → Prop) : Oc := fun L u L1 => ∃ a, A a ∧ u = Is K a ∧ L1 = L
def oNew {α : Type} [DecidableEq α] [Datum α] (K : PySem.W.Frag) (R : List α → Prop) : Oc := fun L u L1 => ∃ (p : Addr) (xs : List α), R xs ∧ u = Vl (.ref p) ∧ L1 = (p, LoL K xs) :: L
def YS (B : Bs) (g : Slots) (L : Ls) (ts : TS) (D : Ends) : Prop := ∀ s H, At B g L s H → ts D s H
def Rt (B : Bs) (t : Sl) (Q : VK) : Prop := ∀ v H, Le B.W.M B.H0 H → Ok B.W B.A H → t.p v (cut B.A H) → Q v H
/-- targets -/
def sets : L2.St → List Nat → List V → L2.St
  | s, i :: is, w :: ws => sets (s.set i (some w)) is ws
  | s, _, _ => s
def setg : Slots → List (Nat × Sl) → Slots
  | g, [] => g
  | g, u :: us => setg (g.set u.1 (some u.2)) us
def YG (B : Bs) (L : Ls) (gt : TG) (t : Sl) (us : List (Nat × Sl)) : Prop := ∀ (s : L2.St) H v, Hd B L H → t.p v (vw B L H) → ∀ Q : L2.St → Hp → Prop, (∀ ws, Paired (fun w (u : Nat × Sl) => u.2.p w (vw B L H)) ws us → Q (sets s (us.map (·.1)) ws) H) → gt v s H Q
section
variable {K : PySem.W.Frag} {B : Bs} {g : Slots} {L : Ls} {te t1 t2 t3 : TE} {tt tu : TT} {ta : TA} {t u w : Sl}
/-! ### heaps again -/
theorem vw_grow {L1 : Ls} {H H' : Hp} (h : Hd B L H) (e : Le B.W.M H H') (gw : Gw L L1 H) : Same (vw B L H) (vw B L1 H') := fun b o q => by
  obtain ⟨h1, h2⟩ := cut_of q
  have hb : b ∉ L1.map (·.1) ++ B.A := fun z => by
    rcases List.mem_append.mp z with z | z
    · obtain ⟨r, hr, rfl⟩ := List.mem_map.mp z
      rcases gw r hr with k | k
      · exact h1 (List.mem_append_left _ (List.mem_map.mpr ⟨r, k, rfl⟩))
      · rw [k] at h2; cases h2
    · exact h1 (List.mem_append_right _ z)
  show cut _ H' b = some o
  rw [cut_out hb]
  exact e b o (fun z => h1 (h.ms b z)) h2
theorem add_vw {p : Addr} {H : Hp} : Same (vw (B.add p) L H) (vw B L H) := cut_sub fun a ha => by
  rcases List.mem_append.mp ha with z | z
  · exact List.mem_append_left _ z
  · exact List.mem_append_right _ (List.mem_cons_of_mem _ z)
theorem vw_add {p : Addr} {H H' : Hp} (h : Hd B L H) (hp : H p = none) (e : Le B.W.M H H') : Same (vw B L H) (vw (B.add p) L H') := fun b o q => by
  obtain ⟨h1, h2⟩ := cut_of q
  have hb : b ∉ L.map (·.1) ++ (p :: B.A) := fun z => by
    rcases List.mem_append.mp z with z | z
    · exact h1 (List.mem_append_left _ z)
    · rcases List.mem_cons.mp z with z | z
      · subst z; rw [hp] at h2; cases h2
      · exact h1 (List.mem_append_right _ z)
  show cut (L.map (·.1) ++ (p :: B.A)) H' b = some o
  rw [cut_out hb]
  exact e b o (fun z => h1 (h.ms b z)) h2
theorem At.addA {s : L2.St} {p : Addr} {o : HO} {H : Hp} (h : At B g L s H) (hp : H p = none) : At (B.add p) g L s (upd H p o) := by
  have e : Le B.W.M H (upd H p o) := Le.laid hp
  have sm := vw_add h.hd hp e
  have ok := h.hd.ok.laid (o := o) hp
  refine ⟨⟨⟨fun b hb => List.mem_cons_of_mem _ (h.hd.ok.sub b hb), ok.j, fun a ha => ?_⟩, h.hd.le.trans e, fun q hq => ⟨(h.hd.new q hq).1, fun z => ?_⟩, h.hd.nd, fun q hq => ?_, fun q hq => q.2.mono sm (h.hd.x q hq)⟩, h.sg.mono sm⟩
  · rcases List.mem_cons.mp ha with z | z
    · subst z; rw [upd_same]; exact fun q => by cases q
    · exact ok.av a z
  · rcases List.mem_cons.mp z with z | z
    · obtain ⟨o', e1, _⟩ := h.hd.lo q hq
      rw [z, hp] at e1; cases e1
    · exact (h.hd.new q hq).2 z
  · obtain ⟨o', e1, e2⟩ := h.hd.lo q hq
    exact ⟨o', e _ _ (h.hd.nm q hq) e1, q.2.mono sm e2⟩
/-- an object of which nothing is told is changed -/
theorem At.poke {s : L2.St} {p : Addr} {o : HO} {H : Hp} (h : At B g L s H) (hp : p ∈ B.A) (hm : p ∉ B.W.M) (h0 : B.H0 p = none) : At B g L s (upd H p o) := by
  have ev : vw B L (upd H p o) = vw B L H := by
    funext b
    show cut _ _ b = cut _ _ b
    by_cases hb : b ∈ L.map (·.1) ++ B.A
    · rw [cut_in hb, cut_in hb]
    · rw [cut_out hb, cut_out hb, upd_ne fun z => hb (by rw [z]; exact List.mem_append_right _ hp)]
  refine ⟨⟨⟨h.hd.ok.sub, B.W.jd (fun b hb => upd_ne fun z => hm (by rw [← z]; exact hb)) h.hd.ok.j, fun a ha => ?_⟩, fun b o' hb q => ?_, h.hd.new, h.hd.nd, fun q hq => ?_, fun q hq => ?_⟩, ?_⟩
  · by_cases z : a = p
    · subst z; rw [upd_same]; exact fun q => by cases q
    · rw [upd_ne z]; exact h.hd.ok.av a ha
  · have z : b ≠ p := fun z => by rw [z, h0] at q; cases q
    rw [upd_ne z]; exact h.hd.le b o' hb q
  · obtain ⟨o', e1, e2⟩ := h.hd.lo q hq
    have z : q.1 ≠ p := fun z => (h.hd.new q hq).2 (by rw [z]; exact hp)
    exact ⟨o', by rw [upd_ne z]; exact e1, by rw [ev]; exact e2⟩
  · rw [ev]; exact h.hd.x q hq
  · rw [ev]; exact h.sg
/-- the list that was set aside is told of -/
theorem At.unadd {s : L2.St} {p : Addr} {H : Hp} (h : At (B.add p) g L s H) (hs : ∀ b, b ∈ B.W.M → b ∈ B.A) : At B g L s H :=
  ⟨⟨⟨hs, h.hd.ok.j, fun a ha => h.hd.ok.av a (List.mem_cons_of_mem _ ha)⟩, h.hd.le, fun q hq => ⟨(h.hd.new q hq).1, fun z => (h.hd.new q hq).2 (List.mem_cons_of_mem _ z)⟩, h.hd.nd,
    fun q hq => let ⟨o, e1, e2⟩ := h.hd.lo q hq; ⟨o, e1, q.2.mono add_vw e2⟩, fun q hq => q.2.mono add_vw (h.hd.x q hq)⟩, h.sg.mono add_vw⟩
/-- .. or becomes a changing one -/
theorem At.own {s : L2.St} {p : Addr} {o : HO} {t : Lo} {H : Hp} (h : At (B.add p) g L s H) (hs : ∀ b, b ∈ B.W.M → b ∈ B.A) (h0 : B.H0 p = none) (hA : p ∉ B.A) (ho : H p = some o) (ht : t.p o (vw (B.add p) L H)) : At B g ((p, t) :: L) s H := by
  have e : Same (vw (B.add p) L H) (vw B ((p, t) :: L) H) := cut_sub fun a ha => by
    rcases List.mem_append.mp ha with z | z
    · rcases List.mem_cons.mp z with z | z
      · rw [z]; exact List.mem_append_right _ List.mem_cons_self
      · exact List.mem_append_left _ z
    · exact List.mem_append_right _ (List.mem_cons_of_mem _ z)
  refine ⟨⟨⟨hs, h.hd.ok.j, fun a ha => h.hd.ok.av a (List.mem_cons_of_mem _ ha)⟩, h.hd.le, fun q hq => ?_, List.nodup_cons.mpr ⟨fun z => ?_, h.hd.nd⟩, fun q hq => ?_, fun q hq => q.2.mono e (h.hd.x q hq)⟩, h.sg.mono e⟩
  · rcases List.mem_cons.mp hq with z | z
    · rw [z]; exact ⟨h0, hA⟩
    · exact ⟨(h.hd.new q z).1, fun y => (h.hd.new q z).2 (List.mem_cons_of_mem _ y)⟩
  · obtain ⟨r, hr, e1⟩ := List.mem_map.mp z
    exact (h.hd.new r hr).2 (by rw [e1]; exact List.mem_cons_self)
  · rcases List.mem_cons.mp hq with z | z
    · rw [z]; exact ⟨o, ho, t.mono e ht⟩
    · obtain ⟨o', e1, e2⟩ := h.hd.lo q z
      exact ⟨o', e1, q.2.mono e e2⟩
/-- a changing object is changed -/
theorem At.put {s : L2.St} {i : Nat} {p : Addr} {t t' : Lo} {o : HO} {H : Hp} (h : At B g L s H) (hl : L[i]? = some (p, t)) (ho : t'.p o (vw B L H)) : At B g (L.set i (p, t')) s (upd H p o) := by
  have hm : (p, t) ∈ L := List.mem_of_getElem? hl
  have em : (L.set i (p, t')).map (·.1) = L.map (·.1) := by
    rw [List.map_set]
    refine List.ext_getElem? fun j => ?_
    by_cases hj : i = j
    · subst hj
      have hi : i < L.length := (List.getElem?_eq_some_iff.mp hl).1
      rw [List.getElem?_set_self (by rw [List.length_map]; exact hi), List.getElem?_map, hl]; rfl
    · rw [List.getElem?_set_ne hj]
  have ev : vw B (L.set i (p, t')) (upd H p o) = vw B L H := by
    show cut ((L.set i (p, t')).map (·.1) ++ B.A) _ = cut _ _
    rw [em]
    funext b
    by_cases hb : b ∈ L.map (·.1) ++ B.A
    · rw [cut_in hb, cut_in hb]
    · rw [cut_out hb, cut_out hb, upd_ne fun z => hb (by rw [z]; exact List.mem_append_left _ (List.mem_map.mpr ⟨_, hm, rfl⟩))]
  have nA := (h.hd.new _ hm).2
  have nM : p ∉ B.W.M := h.hd.nm _ hm
  have h0 := (h.hd.new _ hm).1
  have mem : ∀ q, q ∈ L.set i (p, t') → q = (p, t') ∨ (q ∈ L ∧ q.1 ≠ p) := fun q hq => by
    obtain ⟨j, hj⟩ := List.mem_iff_getElem?.mp hq
    by_cases e : i = j
    · subst e
      have hi : i < L.length := (List.getElem?_eq_some_iff.mp hl).1
      rw [List.getElem?_set_self hi] at hj
      cases hj; exact .inl rfl
    · rw [List.getElem?_set_ne e] at hj
      refine .inr ⟨List.mem_of_getElem? hj, fun z => e ?_⟩
      have n := h.hd.nd
      have a1 : (L.map (·.1))[i]? = some p := by rw [List.getElem?_map, hl]; rfl
      have a2 : (L.map (·.1))[j]? = some p := by rw [List.getElem?_map, hj]; exact congrArg some z
      obtain ⟨b1, c1⟩ := List.getElem?_eq_some_iff.mp a1
      obtain ⟨b2, c2⟩ := List.getElem?_eq_some_iff.mp a2
      exact (List.getElem_inj n).mp (c1.trans c2.symm)
  refine ⟨⟨⟨h.hd.ok.sub, B.W.jd (fun b hb => upd_ne fun z => nM (by rw [← z]; exact hb)) h.hd.ok.j, fun a ha => ?_⟩, fun b o' hb q => ?_, fun q hq => ?_, by rw [em]; exact h.hd.nd, fun q hq => ?_, fun q hq => ?_⟩, ?_⟩
  · rw [upd_ne fun z => nA (by rw [← z]; exact ha)]; exact h.hd.ok.av a ha
  · have z : b ≠ p := fun z => by rw [z, h0] at q; cases q
    rw [upd_ne z]; exact h.hd.le b o' hb q
  · rcases mem q hq with z | z
    · rw [z]; exact ⟨h0, nA⟩
    · exact h.hd.new q z.1
  · rcases mem q hq with z | z
    · rw [z, ev]; exact ⟨o, upd_same, ho⟩
    · obtain ⟨o', e1, e2⟩ := h.hd.lo q z.1
      exact ⟨o', by rw [upd_ne z.2]; exact e1, by rw [ev]; exact e2⟩
  · rw [ev]; exact h.hd.x q hq
  · rw [ev]; exact h.sg
/-- a changing object is changed no more: it may be told of -/
theorem At.rel {s : L2.St} {L' : Ls} {H : Hp} (h : At B g L s H) (hs : L'.Sublist L) : At B g L' s H := by
  have e : Same (vw B L H) (vw B L' H) := cut_sub fun a ha => by
    rcases List.mem_append.mp ha with z | z
    · exact List.mem_append_left _ ((hs.map _).subset z)
    · exact List.mem_append_right _ z
  exact ⟨⟨h.hd.ok, h.hd.le, fun q hq => h.hd.new q (hs.subset hq), (hs.map _).nodup h.hd.nd, fun q hq => let ⟨o, e1, e2⟩ := h.hd.lo q (hs.subset hq); ⟨o, e1, q.2.mono e e2⟩, fun q hq => q.2.mono e (h.hd.x q hq)⟩, h.sg.mono e⟩
/-! ### slots -/
theorem Sg.set {s : L2.St} {H : Hp} {v : V} (h : Sg g s H) (i : Nat) (hv : t.p v H) : Sg (g.set i (some t)) (s.set i (some v)) H := ⟨by rw [List.length_set, List.length_set]; exact h.len, fun j r q => by
  by_cases hj : i = j
  · subst hj
    by_cases hi : i < g.length
    · rw [List.getElem?_set_self hi] at q
      cases q
      exact ⟨v, List.getElem?_set_self (by rw [h.len]; exact hi), hv⟩
    · rw [List.getElem?_eq_none (by rw [List.length_set]; omega)] at q; cases q
  · rw [List.getElem?_set_ne hj] at q
    obtain ⟨w, e1, e2⟩ := h.at_ j r q
    exact ⟨w, by rw [List.getElem?_set_ne hj]; exact e1, e2⟩⟩
theorem Sg.sets {H : Hp} : ∀ {us : List (Nat × Sl)} {g : Slots} {s : L2.St} {ws : List V}, Sg g s H → Paired (fun w (u : Nat × Sl) => u.2.p w H) ws us → Sg (setg g us) (sets s (us.map (·.1)) ws) H
  | [], _, _, _, h, .nil => h
  | u :: us, g, s, w :: ws, h, .cons r p => by
    show Sg (setg (g.set u.1 (some u.2)) us) (G.sets (s.set u.1 (some w)) (us.map (·.1)) ws) H
    exact Sg.sets (h.set u.1 r) p
/-- knowing less -/
inductive Wk1 : Slots → Slots → Prop
  | nil : Wk1 [] []
  | keep {o : Option Sl} {g g' : Slots} (h : Wk1 g g') : Wk1 (o :: g) (o :: g')
  | drop {o : Option Sl} {g g' : Slots} (h : Wk1 g g') : Wk1 (o :: g) (none :: g')
theorem Wk1.refl : ∀ g : Slots, Wk1 g g
  | [] => .nil
  | _ :: g => .keep (Wk1.refl g)
theorem Wk1.le : ∀ {g g' : Slots}, Wk1 g g' → g'.length = g.length ∧ ∀ (i : Nat) (t : Sl), g'[i]? = some (some t) → g[i]? = some (some t)
  | _, _, .nil => ⟨rfl, fun _ _ h => h⟩
  | _, _, .keep h => ⟨congrArg Nat.succ h.le.1, fun i t q => by
    cases i with
    | zero => exact q
    | succ i => exact h.le.2 i t (by simpa using q)⟩
  | _, _, .drop h => ⟨congrArg Nat.succ h.le.1, fun i t q => by
    cases i with
    | zero => simp at q
    | succ i => simpa using h.le.2 i t (by simpa using q)⟩
theorem Sg.weak {g' : Slots} {s : L2.St} {H : Hp} (h : Sg g s H) (e : Wk1 g g') : Sg g' s H := ⟨h.len.trans e.le.1.symm, fun i t q => h.at_ i t (e.le.2 i t q)⟩
theorem At.weak {g' : Slots} {s : L2.St} {H : Hp} (h : At B g L s H) (e : Wk1 g g') : At B g' L s H := ⟨h.hd, h.sg.weak e⟩
end
end G
set_option Elab.async false
set_option linter.all false
set_option maxRecDepth 100000
set_option maxHeartbeats 4000000
/-! The rules over data, part b: expressions. -/
namespace G
open PySem PySem.Spec PyProof.Rows L2 PySem.W
/-- whether a stands in bs -/
def inB {α : Type} [DecidableEq α] (a : α) (bs : List α) : Bool := decide (a ∈ bs)
theorem inB_true {α : Type} [DecidableEq α] {a : α} {bs : List α} : inB a bs = true ↔ a ∈ bs := decide_eq_true_iff
theorem inB_false {α : Type} [DecidableEq α] {a : α} {bs : List α} : inB a bs = false ↔ a ∉ bs := decide_eq_false_iff_not
section
variable {K : PySem.W.Frag} {B : Bs} {g : Slots} {L : Ls} {te t1 t2 t3 : TE} {tt tu : TT} {ta : TA} {t u w : Sl}
variable {α β : Type} {_ : DecidableEq α} {_ : Datum α} {_ : DecidableEq β} {_ : Datum β}
/-! ### passage between the judgements -/
theorem Y.loose (h : Y B g L te t) : YL B g L te t := fun s H a Q k => h s H a Q fun v H' e j p => k v H' e j (t.mono (Hd.vl (a.hd.step e j)) p)
theorem Y.imp (h : Y B g L te t) (f : ∀ v H, t.p v H → u.p v H) : Y B g L te u := fun s H a Q k => h s H a Q fun v H' e j p => k v H' e j (f _ _ p)
theorem YL.imp (h : YL B g L te t) (f : ∀ v H, t.p v H → u.p v H) : YL B g L te u := fun s H a Q k => h s H a Q fun v H' e j p => k v H' e j (f _ _ p)
theorem Y.ex {A : α → Prop} {a : α} (h : Y B g L te (Is K a)) (ha : A a) : Y B g L te (Ex K A) := h.imp fun _ _ p => ⟨a, ha, p⟩
theorem Y.exm {A A' : α → Prop} (h : Y B g L te (Ex K A)) (ha : ∀ a, A a → A' a) : Y B g L te (Ex K A') := h.imp fun _ _ p => p.imp fun a q => ⟨ha a q.1, q.2⟩
theorem Y.is {A : α → Prop} {a : α} (h : Y B g L te (Ex K A)) (ha : ∀ b, A b → b = a) : Y B g L te (Is K a) := h.imp fun _ _ p => by
  obtain ⟨b, q, r⟩ := p
  rw [← ha b q]; exact r
theorem Y.to {a b : α} (h : Y B g L te (Is K a)) (e : a = b) : Y B g L te (Is K b) := e ▸ h
theorem Y.q {xs : List α} (h : Y B g L te (Is K xs)) : YQ K B g L te xs := fun s H a Q k => h s H a Q fun v H' e j p => by
  obtain ⟨b, vs, ev, hs, hr⟩ := lst_rp p
  exact k v H' e j ⟨b, vs, ev, (Hd.vl (a.hd.step e j)).seq hs, hr⟩
theorem YQ.loose {xs : List α} (h : YQ K B g L te xs) : YL B g L te (Is K xs) := fun s H a Q k => h s H a Q fun v H' e j p => by
  obtain ⟨b, vs, ev, hs, hr⟩ := p
  subst ev
  exact k _ H' e j (rp_lst hs (hr.same (Hd.vl (a.hd.step e j))))
theorem YF.ex {R : List α → Prop} (h : YF K B g L te R) : Y B g L te (Ex K R) := fun s H a Q k => h s H a Q fun p vs xs H' hp hl a' e hr r => by
  have a2 := a'.unadd a.hd.ok.sub
  have nA : p ∉ L.map (·.1) ++ B.A := a.hd.fresh hp
  have e1 : vw B L H' p = some (.lst vs) := by
    unfold vw
    rw [cut_out nA]; exact hl
  exact k _ H' e a2.hd.ok.j ⟨xs, r, rp_lst (SqL.of e1) (hr.same add_vw)⟩
theorem YF.dat {xs : List α} (h : YF K B g L te (· = xs)) : Y B g L te (Is K xs) := h.ex.is fun _ e => e
theorem YF.imp {R R' : List α → Prop} (h : YF K B g L te R) (f : ∀ xs, R xs → R' xs) : YF K B g L te R' := fun s H a Q k => h s H a Q fun p vs xs H' hp hl a' e hr r => k p vs xs H' hp hl a' e hr (f xs r)
theorem YF.to {xs ys : List α} (h : YF K B g L te (· = xs)) (e : xs = ys) : YF K B g L te (· = ys) := e ▸ h
theorem Y.o (h : Y B g L te t) : YO B g L te (oDat t) := fun s H a Q k => h s H a Q fun v H' e j p => k v H' t L ⟨rfl, rfl⟩ (a.step e j) e (fun q hq => .inl hq) p
theorem Y.oe {A : α → Prop} (h : Y B g L te (Ex K A)) : YO B g L te (oEx K A) := fun s H a Q k => h s H a Q fun v H' e j p => by
  obtain ⟨b, q, r⟩ := p
  exact k v H' (Is K b) L ⟨b, q, rfl, rfl⟩ (a.step e j) e (fun q hq => .inl hq) r
theorem YF.o {R : List α → Prop} (h : YF K B g L te R) : YO B g L te (oNew K R) := fun s H a Q k => h s H a Q fun p vs xs H' hp hl a' e hr r => by
  have nA : p ∉ L.map (·.1) ++ B.A := a.hd.fresh hp
  refine k _ H' (Vl (.ref p)) ((p, LoL K xs) :: L) ⟨p, xs, r, rfl, rfl⟩ (a'.own a.hd.ok.sub (a.hd.h0 hp) (fun z => nA (List.mem_append_right _ z)) hl ⟨vs, rfl, hr⟩) e (fun q hq => ?_) rfl
  rcases List.mem_cons.mp hq with z | z
  · rw [z]; exact .inr hp
  · exact .inl z
theorem YP.imp {C C' : Bool → Prop} (h : YP B g L tt C) (f : ∀ c, C c → C' c) : YP B g L tt C' := fun s H a Q k => h s H a Q fun c H' e j p => k c H' e j (f c p)
theorem YT.to {c c' : Bool} (h : YT B g L tt c) (e : c = c') : YT B g L tt c' := e ▸ h
/-! ### names, constants -/
theorem y_var {i : Nat} (h : g[i]? = some (some t)) : Y B g L (tVar i) t := fun s H a Q k => by
  obtain ⟨v, e1, e2⟩ := a.sg.at_ i t h
  exact ⟨v, e1, k v H (Le.refl _ _) a.hd.ok.j e2⟩
/-- an own changing list -/
theorem yq_loc {xs : List α} {i j : Nat} {p : Addr} (h : g[i]? = some (some (Vl (.ref p)))) (hl : L[j]? = some (p, LoL K xs)) : YQ K B g L (tVar i) xs := fun s H a Q k => by
  obtain ⟨v, e1, e2⟩ := a.sg.at_ i _ h
  obtain ⟨o, e3, vs, e4, e5⟩ := a.hd.lo _ (List.mem_of_getElem? hl)
  refine ⟨v, e1, k v H (Le.refl _ _) a.hd.ok.j ⟨p, vs, e2, SqL.of ?_, e5⟩⟩
  have nm : p ∉ B.W.M := a.hd.nm _ (List.mem_of_getElem? hl)
  show cut _ _ _ = _
  rw [cut_out nm, ← e4]; exact e3
theorem y_c {v : V} (h : ∀ H, t.p v H) : Y B g L (tC v) t := fun s H a Q k => k v H (Le.refl _ _) a.hd.ok.j (h _)
theorem y_int {i : Int} : Y B g L (tC (.int i)) (Is K i) := y_c fun _ => rp_int i
theorem y_bl {b : Bool} : Y B g L (tC (.bl b)) (Is K b) := y_c fun _ => rp_bl b
theorem y_str {x : Str} : Y B g L (tC (.str x)) (Is K x) := y_c fun _ => rp_str x
theorem y_non : Y B g L (tC .non) (Is K ()) := y_c fun _ => rp_unit
theorem y_vl {v : V} : Y B g L (tC v) (Vl v) := y_c fun _ => rfl
/-! ### operators -/
/-- an operator that answers a scalar -/
theorem y_bin {r : R2} (h1 : YL B g L t1 t) (h2 : YL B g L t2 u) (rule : ∀ v x H Q, t.p v H → u.p x H → (∀ z, (∀ H', w.p z H') → Q z H) → r v x H Q) : Y B g L (tOp r t1 t2) w :=
  fun s H a Q k => h1 s H a _ fun v H1 e1 j1 p1 => h2 s H1 (a.step e1 j1) _ fun x H2 e2 j2 p2 =>
    rule v x H2 Q (t.mono lw_same (t.mono (Hd.lsame e2) p1)) (u.mono lw_same p2) fun z hz => k z H2 (e1.trans e2) j2 (hz _)
theorem y_opI {f : Int → Int → Int} {i j : Int} (h1 : YL B g L t1 (Is K i)) (h2 : YL B g L t2 (Is K j)) : Y B g L (tOp (rI0 fun i j => .int (f i j)) t1 t2) (Is K (f i j)) :=
  y_bin h1 h2 fun v x H Q p1 p2 q => ⟨i, j, int_rp p1, int_rp p2, q _ fun _ => rp_int _⟩
theorem y_opIE {f : Int → Int → Int} {A C : Int → Prop} (h1 : YL B g L t1 (Ex K A)) (h2 : YL B g L t2 (Ex K C)) : Y B g L (tOp (rI0 fun i j => .int (f i j)) t1 t2) (Ex K fun z => ∃ i j, A i ∧ C j ∧ z = f i j) :=
  y_bin h1 h2 fun v x H Q p1 p2 q => by
    obtain ⟨i, a1, r1⟩ := p1
    obtain ⟨j, a2, r2⟩ := p2
    exact ⟨i, j, int_rp r1, int_rp r2, q _ fun _ => ⟨_, ⟨i, j, a1, a2, rfl⟩, rp_int _⟩⟩
theorem y_opB {f : Int → Int → Bool} {i j : Int} (h1 : YL B g L t1 (Is K i)) (h2 : YL B g L t2 (Is K j)) : Y B g L (tOp (rI0 fun i j => .bl (f i j)) t1 t2) (Is K (f i j)) :=
  y_bin h1 h2 fun v x H Q p1 p2 q => ⟨i, j, int_rp p1, int_rp p2, q _ fun _ => rp_bl _⟩
theorem y_opBE {f : Int → Int → Bool} {A C : Int → Prop} (h1 : YL B g L t1 (Ex K A)) (h2 : YL B g L t2 (Ex K C)) : Y B g L (tOp (rI0 fun i j => .bl (f i j)) t1 t2) (Ex K fun z => ∃ i j, A i ∧ C j ∧ z = f i j) :=
  y_bin h1 h2 fun v x H Q p1 p2 q => by
    obtain ⟨i, a1, r1⟩ := p1
    obtain ⟨j, a2, r2⟩ := p2
    exact ⟨i, j, int_rp r1, int_rp r2, q _ fun _ => ⟨_, ⟨i, j, a1, a2, rfl⟩, rp_bl _⟩⟩
theorem y_opC {C : Int → Int → Prop} {f : Int → Int → Int} {i j : Int} (h1 : YL B g L t1 (Is K i)) (h2 : YL B g L t2 (Is K j)) (hc : C i j) : Y B g L (tOp (rI C fun i j => .int (f i j)) t1 t2) (Is K (f i j)) :=
  y_bin h1 h2 fun v x H Q p1 p2 q => ⟨i, j, int_rp p1, int_rp p2, hc, q _ fun _ => rp_int _⟩
theorem y_opCE {R : Int → Int → Prop} {f : Int → Int → Int} {A C : Int → Prop} (h1 : YL B g L t1 (Ex K A)) (h2 : YL B g L t2 (Ex K C)) (hc : ∀ i j, A i → C j → R i j) :
    Y B g L (tOp (rI R fun i j => .int (f i j)) t1 t2) (Ex K fun z => ∃ i j, A i ∧ C j ∧ z = f i j) :=
  y_bin h1 h2 fun v x H Q p1 p2 q => by
    obtain ⟨i, a1, r1⟩ := p1
    obtain ⟨j, a2, r2⟩ := p2
    exact ⟨i, j, int_rp r1, int_rp r2, hc i j a1 a2, q _ fun _ => ⟨_, ⟨i, j, a1, a2, rfl⟩, rp_int _⟩⟩
theorem y_neg {i : Int} (h : YL B g L te (Is K i)) : Y B g L (tUn (rU fun i => .int (-i)) te) (Is K (-i)) := fun s H a Q k => h s H a _ fun v H1 e j p => ⟨i, int_rp p, k _ H1 e j (rp_int _)⟩
theorem y_eqT {a b : α} (h1 : YL B g L t1 (Is K a)) (h2 : YL B g L t2 (Is K b)) : Y B g L (tOp (rEqT K α) t1 t2) (Is K (decide (a = b))) :=
  y_bin h1 h2 fun v x H Q p1 p2 q => ⟨a, b, p1, p2, q _ fun _ => rp_bl _⟩
theorem y_neT {a b : α} (h1 : YL B g L t1 (Is K a)) (h2 : YL B g L t2 (Is K b)) : Y B g L (tOp (rNeT K α) t1 t2) (Is K (decide (a ≠ b))) :=
  y_bin h1 h2 fun v x H Q p1 p2 q => ⟨a, b, p1, p2, q _ fun _ => rp_bl _⟩
theorem y_eqTE {A : α → Prop} {b : α} (h1 : YL B g L t1 (Ex K A)) (h2 : YL B g L t2 (Is K b)) : Y B g L (tOp (rEqT K α) t1 t2) (Ex K fun c => ∃ a, A a ∧ c = decide (a = b)) :=
  y_bin h1 h2 fun v x H Q p1 p2 q => by
    obtain ⟨a, a1, r1⟩ := p1
    exact ⟨a, b, r1, p2, q _ fun _ => ⟨_, ⟨a, a1, rfl⟩, rp_bl _⟩⟩
theorem y_inT {a : α} {bs : List α} (h1 : YL B g L t1 (Is K a)) (h2 : YL B g L t2 (Is K bs)) : Y B g L (tOp (rInT K α) t1 t2) (Is K (inB a bs)) :=
  y_bin h1 h2 fun v x H Q p1 p2 q => ⟨a, bs, p1, .inl p2, q _ fun _ => rp_bl _⟩
theorem y_inU {a : α} {bs : List α} (h1 : YL B g L t1 (Is K a)) (h2 : YL B g L t2 (Is K (Tup.mk bs))) : Y B g L (tOp (rInT K α) t1 t2) (Is K (inB a bs)) :=
  y_bin h1 h2 fun v x H Q p1 p2 q => ⟨a, bs, p1, .inr p2, q _ fun _ => rp_bl _⟩
theorem y_notInT {a : α} {bs : List α} (h1 : YL B g L t1 (Is K a)) (h2 : YL B g L t2 (Is K bs)) : Y B g L (tOp (rNotInT K α) t1 t2) (Is K (!inB a bs)) :=
  y_bin h1 h2 fun v x H Q p1 p2 q => ⟨a, bs, p1, .inl p2, q _ fun _ => by show Rp K _ _ (!inB a bs); unfold inB; rw [← decide_not]; exact rp_bl _⟩
theorem y_notInU {a : α} {bs : List α} (h1 : YL B g L t1 (Is K a)) (h2 : YL B g L t2 (Is K (Tup.mk bs))) : Y B g L (tOp (rNotInT K α) t1 t2) (Is K (!inB a bs)) :=
  y_bin h1 h2 fun v x H Q p1 p2 q => ⟨a, bs, p1, .inr p2, q _ fun _ => by show Rp K _ _ (!inB a bs); unfold inB; rw [← decide_not]; exact rp_bl _⟩
theorem y_catS {x y : Str} (h1 : YL B g L t1 (Is K x)) (h2 : YL B g L t2 (Is K y)) (hz : x.length + y.length ≤ sizeLine) :
    Y B g L (tOp (fun x y H Q => ∃ i j, x = .str i ∧ y = .str j ∧ i.length + j.length ≤ sizeLine ∧ Q (.str (i ++ j)) H) t1 t2) (Is K (x ++ y)) :=
  y_bin h1 h2 fun v z H Q p1 p2 q => ⟨x, y, str_rp p1, str_rp p2, hz, q _ fun _ => rp_str _⟩
theorem y_catSE {A C : Str → Prop} (h1 : YL B g L t1 (Ex K A)) (h2 : YL B g L t2 (Ex K C)) (hz : ∀ x y, A x → C y → x.length + y.length ≤ sizeLine) :
    Y B g L (tOp (fun x y H Q => ∃ i j, x = .str i ∧ y = .str j ∧ i.length + j.length ≤ sizeLine ∧ Q (.str (i ++ j)) H) t1 t2) (Ex K fun z => ∃ x y, A x ∧ C y ∧ z = x ++ y) :=
  y_bin h1 h2 fun v z H Q p1 p2 q => by
    obtain ⟨x, a1, r1⟩ := p1
    obtain ⟨y, a2, r2⟩ := p2
    exact ⟨x, y, str_rp r1, str_rp r2, hz x y a1 a2, q _ fun _ => ⟨_, ⟨x, y, a1, a2, rfl⟩, rp_str _⟩⟩
/-! ### tests -/
theorem yp_val {A : Bool → Prop} (h : YL B g L te (Ex K A)) : YP B g L (tB te) A := fun s H a Q k => h s H a _ fun v H1 e j p => by
  obtain ⟨c, ca, r⟩ := p
  exact ⟨c, bl_rp r, k c H1 e j ca⟩
theorem yt_val {c : Bool} (h : YL B g L te (Is K c)) : YT B g L (tB te) c := fun s H a Q k => h s H a _ fun v H1 e j p => ⟨c, bl_rp p, k c H1 e j rfl⟩
theorem yp_test {A : Bool → Prop} (h : YL B g L te (Ex K A)) : YP B g L (tTest te) A := yp_val h
theorem yt_test {c : Bool} (h : YL B g L te (Is K c)) : YT B g L (tTest te) c := yt_val h
theorem yt_yes : YT B g L tYes true := fun s H a Q k => k true H (Le.refl _ _) a.hd.ok.j rfl
theorem yt_not {c : Bool} (h : YT B g L tt c) : YT B g L (tNot tt) (!c) := fun s H a Q k => h s H a _ fun b H1 e j p => k _ H1 e j (congrArg _ p)
theorem yp_not {A : Bool → Prop} (h : YP B g L tt A) : YP B g L (tNot tt) (fun c => A (!c)) := fun s H a Q k => h s H a _ fun b H1 e j p => k _ H1 e j (by show A (!(!b)); rw [Bool.not_not]; exact p)
theorem yt_and {c d : Bool} (h1 : YT B g L tt c) (h2 : c = true → YT B g L tu d) : YT B g L (tAnd tt tu) (c && d) := fun s H a Q k => h1 s H a _ fun b H1 e j p => by
  subst p
  cases b with
  | true => exact h2 rfl s H1 (a.step e j) Q fun b' H2 e2 j2 p2 => k b' H2 (e.trans e2) j2 (by rw [p2]; rfl)
  | false => exact k false H1 e j rfl
theorem yp_and {A C : Bool → Prop} {D : Bool → Prop} (h1 : YP B g L tt A) (h2 : A true → YP B g L tu C) (hd : ∀ c, A true → C c → D c) (hf : A false → D false) : YP B g L (tAnd tt tu) D := fun s H a Q k => h1 s H a _ fun b H1 e j p => by
  cases b with
  | true => exact h2 p s H1 (a.step e j) Q fun b' H2 e2 j2 p2 => k b' H2 (e.trans e2) j2 (hd _ p p2)
  | false => exact k false H1 e j (hf p)
theorem yt_or {c d : Bool} (h1 : YT B g L tt c) (h2 : c = false → YT B g L tu d) : YT B g L (tOr tt tu) (c || d) := fun s H a Q k => h1 s H a _ fun b H1 e j p => by
  subst p
  cases b with
  | true => exact k true H1 e j rfl
  | false => exact h2 rfl s H1 (a.step e j) Q fun b' H2 e2 j2 p2 => k b' H2 (e.trans e2) j2 (by rw [p2]; rfl)
theorem y_andV {c d : Bool} (h1 : Y B g L t1 (Is K c)) (h2 : c = true → Y B g L t2 (Is K d)) : Y B g L (tAndV t1 t2) (Is K (c && d)) := fun s H a Q k => h1 s H a _ fun v H1 e j p => ⟨c, bl_rp p, by
  cases c with
  | true => exact h2 rfl s H1 (a.step e j) Q fun v' H2 e2 j2 p2 => k v' H2 (e.trans e2) j2 p2
  | false => exact k _ H1 e j (rp_bl _)⟩
theorem y_orV {c d : Bool} (h1 : Y B g L t1 (Is K c)) (h2 : c = false → Y B g L t2 (Is K d)) : Y B g L (tOrV t1 t2) (Is K (c || d)) := fun s H a Q k => h1 s H a _ fun v H1 e j p => ⟨c, bl_rp p, by
  cases c with
  | true => exact k _ H1 e j (rp_bl _)
  | false => exact h2 rfl s H1 (a.step e j) Q fun v' H2 e2 j2 p2 => k v' H2 (e.trans e2) j2 p2⟩
theorem y_notV {c : Bool} (h1 : Y B g L t1 (Is K c)) : Y B g L (tNotV t1) (Is K (!c)) := fun s H a Q k => h1 s H a _ fun v H1 e j p => ⟨c, bl_rp p, k _ H1 e j (rp_bl _)⟩
theorem y_if {c : Bool} (h : YT B g L tt c) (h1 : c = true → Y B g L t1 t) (h2 : c = false → Y B g L t2 t) : Y B g L (tIf tt t1 t2) t := fun s H a Q k => h s H a _ fun b H1 e j p => by
  subst p
  cases b with
  | true => exact h1 rfl s H1 (a.step e j) Q fun v' H2 e2 j2 p2 => k v' H2 (e.trans e2) j2 p2
  | false => exact h2 rfl s H1 (a.step e j) Q fun v' H2 e2 j2 p2 => k v' H2 (e.trans e2) j2 p2
theorem y_ifI {c : Bool} {x y : α} (h : YT B g L tt c) (h1 : c = true → Y B g L t1 (Is K x)) (h2 : c = false → Y B g L t2 (Is K y)) : Y B g L (tIf tt t1 t2) (Is K (if c then x else y)) := y_if h
  (fun e => (h1 e).to (by rw [if_pos e])) (fun e => (h2 e).to (by rw [if_neg (by rw [e]; exact Bool.false_ne_true)]))
theorem y_ifP {C : Bool → Prop} (h : YP B g L tt C) (h1 : C true → Y B g L t1 t) (h2 : C false → Y B g L t2 t) : Y B g L (tIf tt t1 t2) t := fun s H a Q k => h s H a _ fun b H1 e j p => by
  cases b with
  | true => exact h1 p s H1 (a.step e j) Q fun v' H2 e2 j2 p2 => k v' H2 (e.trans e2) j2 p2
  | false => exact h2 p s H1 (a.step e j) Q fun v' H2 e2 j2 p2 => k v' H2 (e.trans e2) j2 p2
/-- a < b < c -/
theorem y_chainI {f f' : Int → Int → Bool} {i j l : Int} (h1 : YL B g L t1 (Is K i)) (h2 : YL B g L t2 (Is K j)) (h3 : YL B g L t3 (Is K l)) :
    Y B g L (tChain (rI0 fun i j => .bl (f i j)) (rI0 fun i j => .bl (f' i j)) t1 t2 t3) (Is K (f i j && f' j l)) :=
  fun s H a Q k => h1 s H a _ fun v H1 e1 j1 p1 => h2 s H1 (a.step e1 j1) _ fun x H2 e2 j2 p2 => ⟨i, j, int_rp p1, int_rp p2, _, rfl, by
    cases hf : f i j with
    | true =>
      exact h3 s H2 (a.step (e1.trans e2) j2) _ fun y H3 e3 j3 p3 => ⟨j, l, int_rp p2, int_rp p3, k _ H3 ((e1.trans e2).trans e3) j3 (by show Rp K _ (V.bl (f' j l)) (f i j && f' j l); rw [hf, Bool.true_and]; exact rp_bl _)⟩
    | false => exact k _ H2 (e1.trans e2) j2 (by show Rp K _ (V.bl false) (f i j && f' j l); rw [hf, Bool.false_and]; exact rp_bl _)⟩
/-! ### argument lists, displays -/
theorem ya_nil : YA B g L tNil [] := fun s H a Q k => k [] H (Le.refl _ _) a.hd.ok.j .nil
theorem ya_cons {ts : List Sl} (h : Y B g L te t) (hr : YA B g L ta ts) : YA B g L (tCons te ta) (t :: ts) := fun s H a Q k => h s H a _ fun v H1 e1 j1 p1 => hr s H1 (a.step e1 j1) _ fun vs H2 e2 j2 p2 =>
  k (v :: vs) H2 (e1.trans e2) j2 (.cons (t.mono ((a.step e1 j1).hd.same e2) p1) p2)
theorem ya_loose {ts : List Sl} (h : YA B g L ta ts) : YAL B g L ta ts := fun s H a Q k => h s H a Q fun vs H1 e j p => k vs H1 e j (Paired.mapP p fun v t q => t.mono (Hd.vl (a.hd.step e j)) q)
theorem yal_nil : YAL B g L tNil [] := ya_loose ya_nil
theorem yal_cons {ts : List Sl} (h : YL B g L te t) (hr : YAL B g L ta ts) : YAL B g L (tCons te ta) (t :: ts) := fun s H a Q k => h s H a _ fun v H1 e1 j1 p1 => hr s H1 (a.step e1 j1) _ fun vs H2 e2 j2 p2 =>
  k (v :: vs) H2 (e1.trans e2) j2 (.cons (t.mono (Hd.lsame e2) p1) p2)
theorem y_pair {x : α} {y : β} (h1 : Y B g L t1 (Is K x)) (h2 : Y B g L t2 (Is K y)) : Y B g L (tTup (tCons t1 (tCons t2 tNil))) (Is K (x, y)) := fun s H a Q k =>
  ya_cons h1 (ya_cons h2 ya_nil) s H a _ fun vs H1 e j p => by
    cases p with
    | cons p1 p =>
      cases p with
      | cons p2 p =>
        cases p
        have a1 := (a.hd.step e j)
        refine ⟨by show 2 ≤ sizeLine; decide, fun q hq => k _ _ (e.trans (Le.laid hq)) (a1.ok.laid hq).j (rp_pair (a1.at_new hq) (Rp.same (a1.grow hq) p1) (Rp.same (a1.grow hq) p2))⟩
/-- items of one type -/
def YI1 {α : Type} [DecidableEq α] [Datum α] (K : PySem.W.Frag) (B : Bs) (g : Slots) (L : Ls) (ta : TA) (xs : List α) : Prop := ∀ s H, At B g L s H → ∀ Q : List V → Hp → Prop, (∀ vs H', Le B.W.M H H' → B.W.J H' → RpA K (vw B L H') vs xs → Q vs H') → ta s H Q
theorem yi_nil : YI1 K B g L tNil ([] : List α) := fun s H a Q k => k [] H (Le.refl _ _) a.hd.ok.j RpA.nil
theorem yi_cons {x : α} {xs : List α} (h : Y B g L te (Is K x)) (hr : YI1 K B g L ta xs) : YI1 K B g L (tCons te ta) (x :: xs) := fun s H a Q k => h s H a _ fun v H1 e1 j1 p1 => hr s H1 (a.step e1 j1) _ fun vs H2 e2 j2 p2 =>
  k (v :: vs) H2 (e1.trans e2) j2 (.cons (Rp.same ((a.step e1 j1).hd.same e2) p1) p2)
theorem yi_starU {xs ys : List α} (h : Y B g L te (Is K (Tup.mk xs))) (hr : YI1 K B g L ta ys) : YI1 K B g L (StX.tStar K te ta) (xs ++ ys) := fun s H a Q k => h s H a _ fun v H1 e1 j1 p1 => by
  obtain ⟨b, vs, ev, hs, hx⟩ := tup_rp p1
  refine ⟨b, vs, ev, .inl (sameT vw_same hs), hr s H1 (a.step e1 j1) _ fun ws H2 e2 j2 p2 => k _ H2 (e1.trans e2) j2 ((hx.same ((a.step e1 j1).hd.same e2)).append p2)⟩
theorem y_tupU {xs : List α} (h : YI1 K B g L ta xs) (hz : xs.length ≤ sizeLine) : Y B g L (tTup ta) (Is K (Tup.mk xs)) := fun s H a Q k => h s H a _ fun vs H1 e j p => by
  have a1 := a.hd.step e j
  exact ⟨by rw [p.length]; exact hz, fun q hq => k _ _ (e.trans (Le.laid hq)) (a1.ok.laid hq).j (rp_tup (a1.at_new hq) (p.same (a1.grow hq)))⟩
theorem yf_lst {xs : List α} (h : YI1 K B g L ta xs) (hz : xs.length ≤ sizeLine) : YF K B g L (tLst ta) (· = xs) := fun s H a Q k => h s H a _ fun vs H1 e j p => by
  have a1 := a.step e j
  refine ⟨by rw [p.length]; exact hz, fun q hq => k q vs xs _ ?_ upd_same (a1.addA hq) (e.trans (Le.laid hq)) (p.same (vw_add a1.hd hq (Le.laid hq))) rfl⟩
  cases r : H q with
  | none => rfl
  | some o =>
    by_cases hm : q ∈ B.W.M
    · exact absurd hq (B.W.jm j q hm)
    · rw [e q o hm r] at hq; cases hq
theorem none_back {H H' : Hp} {p : Addr} (e : Le B.W.M H H') (j : B.W.J H') (h : H' p = none) : H p = none := by
  cases r : H p with
  | none => rfl
  | some o =>
    by_cases hm : p ∈ B.W.M
    · exact absurd h (B.W.jm j p hm)
    · rw [e p o hm r] at h; cases h
/-- a new list of strict items, at once -/
theorem yf_mk {xs : List α} {s : L2.St} {H H1 : Hp} {vs : List V} {Q : VK} {R : List α → Prop} (a : At B g L s H) (e : Le B.W.M H H1) (j : B.W.J H1) (p : RpA K (vw B L H1) vs xs) (r : R xs)
    (k : ∀ p vs xs H', H p = none → H' p = some (.lst vs) → At (B.add p) g L s H' → Le B.W.M H H' → RpA K (vw (B.add p) L H') vs xs → R xs → Q (.ref p) H') (q : Addr) (hq : H1 q = none) : Q (.ref q) (upd H1 q (.lst vs)) :=
  k q vs xs _ (none_back e j hq) upd_same ((a.step e j).addA hq) (e.trans (Le.laid hq)) (p.same (vw_add (a.step e j).hd hq (Le.laid hq))) r
/-! ### tuples and lists together -/
theorem y_catU {xs ys : List α} (h1 : Y B g L t1 (Is K (Tup.mk xs))) (h2 : Y B g L t2 (Is K (Tup.mk ys))) (hz : xs.length + ys.length ≤ sizeLine) : Y B g L (tOp (rCatA K) t1 t2) (Is K (Tup.mk (xs ++ ys))) :=
  fun s H a Q k => h1 s H a _ fun v H1 e1 j1 p1 => h2 s H1 (a.step e1 j1) _ fun x H2 e2 j2 p2 => by
    have p1' := Rp.same ((a.step e1 j1).hd.same e2) p1
    obtain ⟨b, vs, rfl, hs, hx⟩ := tup_rp p1'
    obtain ⟨c, ws, rfl, hs2, hx2⟩ := tup_rp p2
    have a2 := a.hd.step (e1.trans e2) j2
    refine ⟨b, c, vs, ws, rfl, rfl, sameT vw_same hs, sameT vw_same hs2, by rw [hx.length, hx2.length]; exact hz, fun z => ?_, fun _ z => ?_, fun _ _ p hp => ?_⟩
    · subst z
      obtain rfl : xs = [] := List.eq_nil_of_length_eq_zero hx.length.symm
      exact k _ H2 (e1.trans e2) j2 p2
    · subst z
      obtain rfl : ys = [] := List.eq_nil_of_length_eq_zero hx2.length.symm
      exact k _ H2 (e1.trans e2) j2 (by rw [List.append_nil]; exact p1')
    · exact k _ _ ((e1.trans e2).trans (Le.laid hp)) (a2.ok.laid hp).j (rp_tup (a2.at_new hp) ((hx.append hx2).same (a2.grow hp)))
theorem yq_lift {xs : List α} {H1 H2 : Hp} {v : V} (h : Hd B L H1) (e : Le B.W.M H1 H2) (p : ∃ a vs, v = .ref a ∧ SqL K (lw B H1) a vs ∧ RpA K (vw B L H1) vs xs) : ∃ a vs, v = .ref a ∧ SqL K (lw B H2) a vs ∧ RpA K (vw B L H2) vs xs := by
  obtain ⟨a, vs, e1, e2, e3⟩ := p
  exact ⟨a, vs, e1, (Hd.lsame e).seq e2, e3.same (h.same e)⟩
theorem yf_cat {xs ys : List α} (h1 : YQ K B g L t1 xs) (h2 : YQ K B g L t2 ys) (hz : xs.length + ys.length ≤ sizeLine) : YF K B g L (tOp (rCatG K) t1 t2) (· = xs ++ ys) :=
  fun s H a Q k => h1 s H a _ fun v H1 e1 j1 p1 => h2 s H1 (a.step e1 j1) _ fun x H2 e2 j2 p2 => by
    obtain ⟨b, vs, rfl, hs, hx⟩ := yq_lift (a.step e1 j1).hd e2 p1
    obtain ⟨c, ws, rfl, hs2, hx2⟩ := p2
    exact ⟨b, c, vs, ws, rfl, rfl, Same.seq lw_same hs, Same.seq lw_same hs2, by rw [hx.length, hx2.length]; exact hz, fun p hp => yf_mk (R := (· = xs ++ ys)) a (e1.trans e2) j2 (hx.append hx2) rfl k p hp⟩
/-! ### subscripts -/
theorem atI_rel {vs : List V} {xs : List α} {H : Hp} {i : Int} {x : α} (h : RpA K H vs xs) (e : atI xs i = some x) : ∃ v, atI vs i = some v ∧ Rp K H v x := by
  unfold atI at e ⊢
  rw [h.length]
  cases q : ixN xs.length i with
  | none => rw [q] at e; cases e
  | some j =>
    rw [q] at e
    exact h.at' e
theorem y_ixL {xs : List α} {i : Int} {x : α} (h1 : YQ K B g L t1 xs) (h2 : YL B g L t2 (Is K i)) (hx : atI xs i = some x) : Y B g L (tOp (rIxL K) t1 t2) (Is K x) :=
  fun s H a Q k => h1 s H a _ fun v H1 e1 j1 p1 => h2 s H1 (a.step e1 j1) _ fun y H2 e2 j2 p2 => by
    obtain ⟨b, vs, rfl, hs, hv⟩ := yq_lift (a.step e1 j1).hd e2 p1
    obtain ⟨w, hw, rw'⟩ := atI_rel hv hx
    exact ⟨b, vs, i, w, rfl, int_rp p2, Same.seq lw_same hs, hw, k _ H2 (e1.trans e2) j2 rw'⟩
theorem y_ixU {xs : List α} {i : Int} {x : α} (h1 : Y B g L t1 (Is K (Tup.mk xs))) (h2 : YL B g L t2 (Is K i)) (hx : atI xs i = some x) : Y B g L (tOp (rIxT K) t1 t2) (Is K x) :=
  fun s H a Q k => h1 s H a _ fun v H1 e1 j1 p1 => h2 s H1 (a.step e1 j1) _ fun y H2 e2 j2 p2 => by
    obtain ⟨b, vs, rfl, hs, hv⟩ := tup_rp (Rp.same ((a.step e1 j1).hd.same e2) p1)
    obtain ⟨w, hw, rw'⟩ := atI_rel hv hx
    exact ⟨b, vs, i, w, rfl, int_rp p2, sameT vw_same hs, hw, k _ H2 (e1.trans e2) j2 rw'⟩
theorem y_ix0 {x : α} {y : β} (h1 : Y B g L t1 (Is K (x, y))) : Y B g L (tOp (rIxT K) t1 (tC (.int 0))) (Is K x) :=
  fun s H a Q k => h1 s H a _ fun v H1 e1 j1 p1 => by
    obtain ⟨b, u, w, rfl, hs, r1, r2⟩ := pair_rp p1
    exact ⟨b, [u, w], 0, u, rfl, rfl, sameT vw_same hs, rfl, k _ H1 e1 j1 r1⟩
theorem y_ix1 {x : α} {y : β} (h1 : Y B g L t1 (Is K (x, y))) : Y B g L (tOp (rIxT K) t1 (tC (.int 1))) (Is K y) :=
  fun s H a Q k => h1 s H a _ fun v H1 e1 j1 p1 => by
    obtain ⟨b, u, w, rfl, hs, r1, r2⟩ := pair_rp p1
    exact ⟨b, [u, w], 1, w, rfl, rfl, sameT vw_same hs, rfl, k _ H1 e1 j1 r2⟩
theorem y_ixLE {xs : List α} {A : Int → Prop} (h1 : YQ K B g L t1 xs) (h2 : YL B g L t2 (Ex K A)) (hx : ∀ i, A i → ∃ x, atI xs i = some x) : Y B g L (tOp (rIxL K) t1 t2) (Ex K fun x => ∃ i, A i ∧ atI xs i = some x) :=
  fun s H a Q k => h1 s H a _ fun v H1 e1 j1 p1 => h2 s H1 (a.step e1 j1) _ fun y H2 e2 j2 p2 => by
    obtain ⟨b, vs, rfl, hs, hv⟩ := yq_lift (a.step e1 j1).hd e2 p1
    obtain ⟨i, ia, ri⟩ := p2
    obtain ⟨x, hx⟩ := hx i ia
    obtain ⟨w, hw, rw'⟩ := atI_rel hv hx
    exact ⟨b, vs, i, w, rfl, int_rp ri, Same.seq lw_same hs, hw, k _ H2 (e1.trans e2) j2 ⟨x, ⟨i, ia, hx⟩, rw'⟩⟩
/-- a text's sign -/
theorem y_ixSE {z : Str} {A : Int → Prop} (h1 : YL B g L t1 (Is K z)) (h2 : YL B g L t2 (Ex K A)) (hz : z.length ≤ sizeLine) (hx : ∀ i, A i → ∃ c, atI z.cps.toList i = some c) : Y B g L (tOp rIxS t1 t2) (Ex K fun x : Str => ∃ (i : Int) (c : Nat), A i ∧ atI z.cps.toList i = some c ∧ x = (⟨#[c]⟩ : Str)) :=
  y_bin h1 h2 fun v y H Q p1 p2 q => by
    obtain ⟨i, ia, ri⟩ := p2
    obtain ⟨c, hc⟩ := hx i ia
    exact ⟨z, i, c, str_rp p1, int_rp ri, hz, hc, q _ fun _ => ⟨_, ⟨i, c, ia, hc, rfl⟩, rp_str _⟩⟩
theorem y_ixS {z : Str} {i : Int} {c : Nat} (h1 : YL B g L t1 (Is K z)) (h2 : YL B g L t2 (Is K i)) (hz : z.length ≤ sizeLine) (hx : atI z.cps.toList i = some c) : Y B g L (tOp rIxS t1 t2) (Is K (⟨#[c]⟩ : Str)) :=
  y_bin h1 h2 fun v y H Q p1 p2 q => ⟨z, i, c, str_rp p1, int_rp p2, hz, hx, q _ fun _ => rp_str _⟩
end
end G
set_option Elab.async false
set_option linter.all false
set_option maxRecDepth 100000
set_option maxHeartbeats 4000000
/-! The rules over data, part c: slices, built-in calls, methods, targets, walks, comprehensions, calls. -/
namespace G
open PySem PySem.Spec PyProof.Rows L2 PySem.W
def cutL {α : Type} (xs : List α) (lo hi : Option Int) : List α := (xs.drop (HT.sIx xs.length 0 lo)).take (HT.sIx xs.length xs.length hi - HT.sIx xs.length 0 lo)
section
variable {K : PySem.W.Frag} {B : Bs} {g : Slots} {L : Ls} {te t1 t2 t3 : TE} {tt tu : TT} {ta : TA} {t u w : Sl} {tl th : TO}
variable {α β : Type} {_ : DecidableEq α} {_ : Datum α} {_ : DecidableEq β} {_ : Datum β}
theorem RpA.cut {H : Hp} {vs : List V} {xs : List α} (h : RpA K H vs xs) (lo hi : Option Int) : RpA K H (cutV vs lo hi) (cutL xs lo hi) := by
  unfold cutV cutL
  rw [h.length]
  exact (h.drop _).take _
/-! ### slices -/
def YO1 (B : Bs) (g : Slots) (L : Ls) (tl : TO) (o : Option Int) : Prop := ∀ s H, At B g L s H → ∀ Q : Option Int → Hp → Prop, (∀ H', Le B.W.M H H' → B.W.J H' → Q o H') → tl s H Q
theorem yo_no : YO1 B g L tNoPart none := fun s H a Q k => k H (Le.refl _ _) a.hd.ok.j
theorem yo_some {i : Int} (h : YL B g L te (Is K i)) : YO1 B g L (tPart te) (some i) := fun s H a Q k => h s H a _ fun v H1 e j p => ⟨i, int_rp p, k H1 e j⟩
theorem yf_slL {xs : List α} {lo hi : Option Int} (h : YQ K B g L te xs) (hl : YO1 B g L tl lo) (hh : YO1 B g L th hi) : YF K B g L (tSl (rSlL K) te tl th) (· = cutL xs lo hi) :=
  fun s H a Q k => h s H a _ fun v H1 e1 j1 p1 => hl s H1 (a.step e1 j1) _ fun H2 e2 j2 => hh s H2 (a.step (e1.trans e2) j2) _ fun H3 e3 j3 => by
    obtain ⟨b, vs, rfl, hs, hv⟩ := yq_lift (a.step e1 j1).hd (e2.trans e3) p1
    exact ⟨b, vs, rfl, Same.seq lw_same hs, fun p hp => yf_mk (R := (· = cutL xs lo hi)) a ((e1.trans e2).trans e3) j3 (hv.cut lo hi) rfl k p hp⟩
theorem y_slU {xs : List α} {lo hi : Option Int} (h : Y B g L te (Is K (Tup.mk xs))) (hl : YO1 B g L tl lo) (hh : YO1 B g L th hi) : Y B g L (tSl (rSlA K) te tl th) (Is K (Tup.mk (cutL xs lo hi))) :=
  fun s H a Q k => h s H a _ fun v H1 e1 j1 p1 => hl s H1 (a.step e1 j1) _ fun H2 e2 j2 => hh s H2 (a.step (e1.trans e2) j2) _ fun H3 e3 j3 => by
    have p1' := Rp.same ((a.step e1 j1).hd.same (e2.trans e3)) p1
    obtain ⟨b, vs, rfl, hs, hv⟩ := tup_rp p1'
    have a3 := a.hd.step ((e1.trans e2).trans e3) j3
    refine ⟨b, vs, rfl, sameT vw_same hs, fun z => ?_, fun _ p hp => k _ _ (((e1.trans e2).trans e3).trans (Le.laid hp)) (a3.ok.laid hp).j (rp_tup (a3.at_new hp) ((hv.cut lo hi).same (a3.grow hp)))⟩
    have ec : cutL xs lo hi = xs := by
      unfold cutL
      rw [hv.length] at z
      rw [z.1, z.2, List.drop_zero, Nat.sub_zero, List.take_length]
    exact k _ H3 ((e1.trans e2).trans e3) j3 (by show Rp K _ _ (Tup.mk (cutL xs lo hi)); rw [ec]; exact p1')
theorem y_slS {z : Str} {lo hi : Option Int} (h : YL B g L te (Is K z)) (hl : YO1 B g L tl lo) (hh : YO1 B g L th hi) (hz : z.length ≤ sizeLine) : Y B g L (tSl rSlS te tl th) (Is K (cutS z lo hi)) :=
  fun s H a Q k => h s H a _ fun v H1 e1 j1 p1 => hl s H1 (a.step e1 j1) _ fun H2 e2 j2 => hh s H2 (a.step (e1.trans e2) j2) _ fun H3 e3 j3 =>
    ⟨z, str_rp p1, hz, k _ H3 ((e1.trans e2).trans e3) j3 (rp_str _)⟩
theorem yf_revL {xs : List α} (h : YQ K B g L te xs) : YF K B g L (tRevL K te) (· = xs.reverse) := fun s H a Q k => h s H a _ fun v H1 e1 j1 p1 => by
  obtain ⟨b, vs, rfl, hs, hv⟩ := p1
  exact ⟨b, vs, rfl, Same.seq lw_same hs, fun p hp => yf_mk (R := (· = xs.reverse)) a e1 j1 hv.reverse rfl k p hp⟩
theorem y_revU {xs : List α} (h : Y B g L te (Is K (Tup.mk xs))) : Y B g L (tRevU K te) (Is K (Tup.mk xs.reverse)) := fun s H a Q k => h s H a _ fun v H1 e1 j1 p1 => by
  obtain ⟨b, vs, rfl, hs, hv⟩ := tup_rp p1
  have a1 := a.hd.step e1 j1
  exact ⟨b, vs, rfl, sameT vw_same hs, fun p hp => k _ _ (e1.trans (Le.laid hp)) (a1.ok.laid hp).j (rp_tup (a1.at_new hp) (hv.reverse.same (a1.grow hp)))⟩
/-! ### built-ins -/
/-- a built-in of one argument that answers a scalar -/
theorem y_cb1 {r : List V → Hp → VK → Prop} (h : YL B g L te t) (rule : ∀ v H Q, t.p v H → (∀ z, (∀ H', w.p z H') → Q z H) → r [v] H Q) : Y B g L (tCB r (tCons te tNil)) w :=
  fun s H a Q k => h s H a _ fun v H1 e1 j1 p1 => rule v H1 Q (t.mono lw_same p1) fun z hz => k z H1 e1 j1 (hz _)
theorem y_cb2 {r : List V → Hp → VK → Prop} (h1 : YL B g L t1 t) (h2 : YL B g L t2 u) (rule : ∀ v x H Q, t.p v H → u.p x H → (∀ z, (∀ H', w.p z H') → Q z H) → r [v, x] H Q) : Y B g L (tCB r (tCons t1 (tCons t2 tNil))) w :=
  fun s H a Q k => h1 s H a _ fun v H1 e1 j1 p1 => h2 s H1 (a.step e1 j1) _ fun x H2 e2 j2 p2 => rule v x H2 Q (t.mono lw_same (t.mono (Hd.lsame e2) p1)) (u.mono lw_same p2) fun z hz => k z H2 (e1.trans e2) j2 (hz _)
abbrev rLenQ (K : PySem.W.Frag) : List V → Hp → VK → Prop := fun xs H Q => ∃ p ys, xs = [.ref p] ∧ (SqL K H p ys ∨ SqT K H p ys) ∧ Q (.int ys.length) H
theorem y_lenL {xs : List α} (h : YL B g L te (Is K xs)) : Y B g L (tCB (rLenQ K) (tCons te tNil)) (Is K (xs.length : Int)) := y_cb1 h fun v H Q p q => by
  obtain ⟨b, vs, rfl, hs, hv⟩ := lst_rp p
  exact ⟨b, vs, rfl, .inl hs, by rw [hv.length]; exact q _ fun _ => rp_int _⟩
theorem y_lenU {xs : List α} (h : YL B g L te (Is K (Tup.mk xs))) : Y B g L (tCB (rLenQ K) (tCons te tNil)) (Is K (xs.length : Int)) := y_cb1 h fun v H Q p q => by
  obtain ⟨b, vs, rfl, hs, hv⟩ := tup_rp p
  exact ⟨b, vs, rfl, .inr hs, by rw [hv.length]; exact q _ fun _ => rp_int _⟩
theorem y_lenS {x : Str} (h : YL B g L te (Is K x)) (hz : x.length ≤ sizeLine) : Y B g L (tCB (fun xs H Q => ∃ z, xs = [.str z] ∧ z.length ≤ sizeLine ∧ Q (.int z.length) H) (tCons te tNil)) (Is K (x.length : Int)) := y_cb1 h fun v H Q p q =>
  ⟨x, by rw [str_rp p], hz, q _ fun _ => rp_int _⟩
theorem y_sum {xs : List Int} (h : YL B g L te (Is K xs)) : Y B g L (tCB (rSum K) (tCons te tNil)) (Is K xs.sum) := y_cb1 h fun v H Q p q => by
  obtain ⟨b, vs, rfl, hs, hv⟩ := lst_rp p
  rw [ints_rp hv] at hs
  exact ⟨b, xs, rfl, hs, q _ fun _ => rp_int _⟩
theorem y_all {xs : List Bool} (h : YL B g L te (Is K xs)) : Y B g L (tCB (rAll K) (tCons te tNil)) (Is K (xs.all id)) := y_cb1 h fun v H Q p q => by
  obtain ⟨b, vs, rfl, hs, hv⟩ := lst_rp p
  rw [bls_rp hv] at hs
  exact ⟨b, xs, rfl, hs, q _ fun _ => rp_bl _⟩
theorem y_any {xs : List Bool} (h : YL B g L te (Is K xs)) : Y B g L (tCB (rAny K) (tCons te tNil)) (Is K (xs.any id)) := y_cb1 h fun v H Q p q => by
  obtain ⟨b, vs, rfl, hs, hv⟩ := lst_rp p
  rw [bls_rp hv] at hs
  exact ⟨b, xs, rfl, hs, q _ fun _ => rp_bl _⟩
end
/-- the greatest of a list that is not empty -/
def mxI : List Int → Int
  | [] => 0
  | x :: xs => xs.foldl max x
theorem mxI_foldl : ∀ (xs : List Int) (x : Int), (xs.foldl max x = x ∨ xs.foldl max x ∈ xs) ∧ x ≤ xs.foldl max x ∧ ∀ y, y ∈ xs → y ≤ xs.foldl max x
  | [], x => ⟨.inl rfl, Int.le_refl _, fun _ h => nomatch h⟩
  | z :: xs, x => by
    obtain ⟨h1, h2, h3⟩ := mxI_foldl xs (max x z)
    rw [List.foldl_cons]
    refine ⟨?_, by omega, fun y hy => ?_⟩
    · rcases h1 with h1 | h1
      · rw [h1]
        rcases Int.le_total x z with q | q
        · exact .inr (by rw [Int.max_eq_right q]; exact List.mem_cons_self)
        · exact .inl (Int.max_eq_left q)
      · exact .inr (List.mem_cons_of_mem _ h1)
    · rcases List.mem_cons.mp hy with e | hy
      · subst e; omega
      · exact h3 y hy
theorem mxI_mem {xs : List Int} (h : xs ≠ []) : mxI xs ∈ xs := by
  cases xs with
  | nil => exact absurd rfl h
  | cons x xs =>
    rcases (mxI_foldl xs x).1 with q | q
    · show xs.foldl max x ∈ x :: xs
      rw [q]; exact List.mem_cons_self
    · exact List.mem_cons_of_mem _ q
theorem mxI_ge {xs : List Int} : ∀ y, y ∈ xs → y ≤ mxI xs := by
  cases xs with
  | nil => intro y h; exact nomatch h
  | cons x xs =>
    intro y hy
    rcases List.mem_cons.mp hy with e | hy
    · subst e; exact (mxI_foldl xs y).2.1
    · exact (mxI_foldl xs x).2.2 y hy
theorem mxI_eq {xs : List Int} {m : Int} (h1 : m ∈ xs) (h2 : ∀ y, y ∈ xs → y ≤ m) : m = mxI xs :=
  Int.le_antisymm (mxI_ge m h1) (h2 _ (mxI_mem (by intro z; rw [z] at h1; cases h1)))
section
variable {K : PySem.W.Frag} {B : Bs} {g : Slots} {L : Ls} {te t1 t2 t3 : TE} {tt tu : TT} {ta : TA} {t u w : Sl} {tl th : TO}
variable {α β : Type} {_ : DecidableEq α} {_ : Datum α} {_ : DecidableEq β} {_ : Datum β}
theorem y_max {xs : List Int} (h : YL B g L te (Is K xs)) (hne : xs ≠ []) : Y B g L (tCB (rMax K) (tCons te tNil)) (Is K (mxI xs)) := y_cb1 h fun v H Q p q => by
  obtain ⟨b, vs, rfl, hs, hv⟩ := lst_rp p
  rw [ints_rp hv] at hs
  exact ⟨b, xs, rfl, hs, List.length_pos_iff.mpr hne, fun m h1 h2 => by rw [mxI_eq h1 h2]; exact q _ fun _ => rp_int _⟩
theorem y_min2 {i j : Int} (h1 : YL B g L t1 (Is K i)) (h2 : YL B g L t2 (Is K j)) : Y B g L (tCB (fun xs H Q => ∃ i j, xs = [.int i, .int j] ∧ Q (.int (if j < i then j else i)) H) (tCons t1 (tCons t2 tNil))) (Is K (if j < i then j else i)) :=
  y_cb2 h1 h2 fun v x H Q p1 p2 q => ⟨i, j, by rw [int_rp p1, int_rp p2], q _ fun _ => rp_int _⟩
theorem y_max2 {i j : Int} (h1 : YL B g L t1 (Is K i)) (h2 : YL B g L t2 (Is K j)) : Y B g L (tCB (fun xs H Q => ∃ i j, xs = [.int i, .int j] ∧ Q (.int (if j > i then j else i)) H) (tCons t1 (tCons t2 tNil))) (Is K (if j > i then j else i)) :=
  y_cb2 h1 h2 fun v x H Q p1 p2 q => ⟨i, j, by rw [int_rp p1, int_rp p2], q _ fun _ => rp_int _⟩
theorem y_abs {i : Int} (h1 : YL B g L t1 (Is K i)) : Y B g L (tCB (fun xs H Q => ∃ i, xs = [.int i] ∧ Q (.int (if i < 0 then -i else i)) H) (tCons t1 tNil)) (Is K (if i < 0 then -i else i)) :=
  y_cb1 h1 fun v H Q p1 q => ⟨i, by rw [int_rp p1], q _ fun _ => rp_int _⟩
abbrev rInt1 : List V → Hp → VK → Prop := fun xs H Q => (∃ i, xs = [.int i] ∧ Q (.int i) H) ∨ ∃ k, xs = [.bl k] ∧ Q (.int (if k then 1 else 0)) H
theorem y_intI {i : Int} (h1 : YL B g L t1 (Is K i)) : Y B g L (tCB rInt1 (tCons t1 tNil)) (Is K i) := y_cb1 h1 fun v H Q p1 q => .inl ⟨i, by rw [int_rp p1], q _ fun _ => rp_int _⟩
theorem y_intIE {A : Int → Prop} (h1 : YL B g L t1 (Ex K A)) : Y B g L (tCB rInt1 (tCons t1 tNil)) (Ex K A) := y_cb1 h1 fun v H Q p1 q => by
  obtain ⟨i, a, r⟩ := p1
  exact .inl ⟨i, by rw [int_rp r], q _ fun _ => ⟨i, a, rp_int _⟩⟩
theorem y_intB {b : Bool} (h1 : YL B g L t1 (Is K b)) : Y B g L (tCB rInt1 (tCons t1 tNil)) (Is K (if b then (1 : Int) else 0)) := y_cb1 h1 fun v H Q p1 q => .inr ⟨b, by rw [bl_rp p1], q _ fun _ => rp_int _⟩
theorem yf_listL {xs : List α} (h : YQ K B g L te xs) : YF K B g L (tCB (fun xs H Q => ∃ p ys, xs = [.ref p] ∧ (SqL K H p ys ∨ SqT K H p ys) ∧ ∀ l, H l = none → Q (.ref l) (upd H l (.lst ys))) (tCons te tNil)) (· = xs) := fun s H a Q k => h s H a _ fun v H1 e1 j1 p1 => by
  obtain ⟨b, vs, rfl, hs, hv⟩ := p1
  exact ⟨b, vs, rfl, .inl (Same.seq lw_same hs), fun p hp => yf_mk (R := (· = xs)) a e1 j1 hv rfl k p hp⟩
abbrev rTupOf (K : PySem.W.Frag) : List V → Hp → VK → Prop := fun xs H Q => ∃ p ys, xs = [.ref p] ∧ ((SqL K H p ys ∧ ∀ l, H l = none → Q (.ref l) (upd H l (.tup ys))) ∨ (SqT K H p ys ∧ Q (.ref p) H))
theorem y_tupL {xs : List α} (h : YQ K B g L te xs) : Y B g L (tCB (rTupOf K) (tCons te tNil)) (Is K (Tup.mk xs)) := fun s H a Q k => h s H a _ fun v H1 e1 j1 p1 => by
  obtain ⟨b, vs, rfl, hs, hv⟩ := p1
  have a1 := a.hd.step e1 j1
  exact ⟨b, vs, rfl, .inl ⟨Same.seq lw_same hs, fun p hp => k _ _ (e1.trans (Le.laid hp)) (a1.ok.laid hp).j (rp_tup (a1.at_new hp) (hv.same (a1.grow hp)))⟩⟩
theorem y_tupT {xs : List α} (h : Y B g L te (Is K (Tup.mk xs))) : Y B g L (tCB (rTupOf K) (tCons te tNil)) (Is K (Tup.mk xs)) := fun s H a Q k => h s H a _ fun v H1 e1 j1 p1 => by
  have p1' : Rp K (vw B L H1) v (Tup.mk xs) := p1
  obtain ⟨b, vs, rfl, hs, hv⟩ := tup_rp p1
  exact ⟨b, vs, rfl, .inr ⟨sameT vw_same hs, k _ H1 e1 j1 p1'⟩⟩
/-! ### methods -/
theorem tyV_lst {H : Hp} {a : Addr} {vs : List V} (h : SqL K H a vs) : tyV K "list" (.ref a) H := Or.inl ⟨rfl, _, h⟩
end
end G
set_option Elab.async false
set_option linter.all false
set_option maxRecDepth 100000
set_option maxHeartbeats 4000000
/-! The rules over data, part d: targets, walks, comprehensions, calls of defs. -/
namespace G
open PySem PySem.Spec PyProof.Rows L2 PySem.W
section
variable {K : PySem.W.Frag} {B : Bs} {g : Slots} {L : Ls} {te t1 t2 t3 : TE} {tt tu : TT} {ta : TA} {t u w : Sl} {tl th : TO}
variable {α β γ : Type} {_ : DecidableEq α} {_ : Datum α} {_ : DecidableEq β} {_ : Datum β} {_ : DecidableEq γ} {_ : Datum γ}
/-! ### targets -/
theorem yg_name {i : Nat} : YG B L (gName i) t [(i, t)] := fun s H v h p Q k => k [v] (.cons p .nil)
theorem yg_pair {g1 g2 : TG} {i j : Nat} {x : α} {y : β} (h1 : YG B L g1 (Is K x) [(i, Is K x)]) (h2 : YG B L g2 (Is K y) [(j, Is K y)]) : YG B L (gTup K 2 (gCons g1 (gCons g2 gNil))) (Is K (x, y)) [(i, Is K x), (j, Is K y)] := fun s H v h p Q k => by
  obtain ⟨b, u, w, rfl, hs, r1, r2⟩ := pair_rp p
  refine ⟨b, [u, w], rfl, sameT vw_same hs, rfl, u, [w], rfl, h1 s H u h r1 _ fun ws q1 => ⟨w, [], rfl, h2 _ H w h r2 _ fun zs q2 => ⟨rfl, ?_⟩⟩⟩
  cases q1 with
  | cons a1 q1 =>
    cases q1
    cases q2 with
    | cons a2 q2 =>
      cases q2
      exact k [_, _] (.cons a1 (.cons a2 .nil))
theorem yg_one {g1 : TG} {i : Nat} {x : α} (h1 : YG B L g1 (Is K x) [(i, Is K x)]) : YG B L (gTup K 1 (gCons g1 gNil)) (Is K (Tup.mk [x])) [(i, Is K x)] := fun s H v h p Q k => by
  obtain ⟨b, vs, rfl, hs, hv⟩ := tup_rp p
  have hl := hv.length
  match vs, hl, hs, hv with
  | [u], _, hs, hv =>
    exact ⟨b, [u], rfl, sameT vw_same hs, rfl, u, [], rfl, h1 s H u h hv.head.1 _ fun ws q1 => ⟨rfl, k ws q1⟩⟩
theorem sets_out : ∀ {is : List Nat} {ws : List V} {s : L2.St} {vs : List Nat}, (∀ i, i ∈ is → i ∈ vs) → wipe (sets s is ws) vs = wipe s vs
  | [], _, _, _, _ => by cases ‹List V› <;> rfl
  | _ :: _, [], _, _, _ => rfl
  | i :: is, w :: ws, s, vs, h => by
    show wipe (sets (s.set i (some w)) is ws) vs = wipe s vs
    rw [sets_out (is := is) (ws := ws) fun j hj => h j (List.mem_cons_of_mem _ hj)]
    have hi : i ∈ vs := h i List.mem_cons_self
    clear h
    induction vs with
    | nil => cases hi
    | cons v vs ih =>
      unfold wipe
      by_cases e : i ∈ vs
      · rw [ih e]
      · have ev : i = v := by
          rcases List.mem_cons.mp hi with z | z
          · exact z
          · exact absurd z e
        subst ev
        clear ih hi
        refine List.ext_getElem? fun j => ?_
        by_cases hj : i = j
        · subst hj
          rw [List.getElem?_set, List.getElem?_set]
          simp only [wipe_length, List.length_set, ↓reduceIte]
        · rw [List.getElem?_set_ne hj, List.getElem?_set_ne hj]
          clear e
          induction vs with
          | nil => exact List.getElem?_set_ne hj
          | cons v vs ih =>
            unfold wipe
            by_cases hv : v = j
            · subst hv
              rw [List.getElem?_set, List.getElem?_set]
              simp only [wipe_length, List.length_set, ↓reduceIte]
            · rw [List.getElem?_set_ne hv, List.getElem?_set_ne hv]; exact ih
def wipeg : Slots → List Nat → Slots
  | g, [] => g
  | g, v :: vs => (wipeg g vs).set v none
theorem wipe_wipe : ∀ {vs : List Nat} {s : L2.St}, wipe (wipe s vs) vs = wipe s vs := fun {vs s} => by
  refine List.ext_getElem? fun j => ?_
  by_cases hj : j ∈ vs
  · have go : ∀ (vs : List Nat) (s : L2.St), j ∈ vs → (wipe s vs)[j]? = if j < s.length then some none else none := by
      intro vs
      induction vs with
      | nil => intro s h; cases h
      | cons v vs ih =>
        intro s h
        unfold wipe
        by_cases e : v = j
        · subst e
          rw [List.getElem?_set]
          simp only [wipe_length, if_true]
        · rw [List.getElem?_set_ne e]
          rcases List.mem_cons.mp h with z | z
          · exact absurd z.symm e
          · exact ih s z
    rw [go vs _ hj, go vs s hj, wipe_length]
  · rw [wipe_out hj]
theorem Sg.wipe {H : Hp} {s : L2.St} : ∀ {vs : List Nat}, Sg g s H → Sg (wipeg g vs) (wipe s vs) H
  | [], h => h
  | v :: vs, h => by
    have ih := Sg.wipe (vs := vs) h
    show Sg ((wipeg g vs).set v none) ((L2.wipe s vs).set v none) H
    refine ⟨by rw [List.length_set, List.length_set]; exact ih.len, fun j r q => ?_⟩
    by_cases hj : v = j
    · subst hj
      rw [List.getElem?_set] at q
      simp only [if_true] at q
      split at q <;> simp at q
    · rw [List.getElem?_set_ne hj] at q
      rw [List.getElem?_set_ne hj]
      exact ih.at_ j r q
theorem At.wipe {s : L2.St} {H : Hp} {vs : List Nat} (h : At B g L s H) : At B (wipeg g vs) L (wipe s vs) H := ⟨h.hd, h.sg.wipe⟩
/-! ### walks -/
/-- what a walk J gives: one datum of xs a turn, while S holds of the loose and the strict heap -/
structure Wk {α : Type} [DecidableEq α] [Datum α] (K : PySem.W.Frag) (J : It) (xs : List α) (S : Hp → Hp → Prop) : Prop where
  mono : ∀ {H H' N N' : Hp}, Same H H' → Same N N' → S H N → S H' N'
  go : ∀ i H N, i < xs.length → S H N → J.go i H
  stop : ∀ H N, S H N → J.stop xs.length H
  yld : ∀ (A : List Addr) i H v H' x, (∀ a, a ∈ A → H a ≠ none) → S H (cut A H) → xs[i]? = some x → J.yld i H v H' → (∀ b, H b ≠ none → H' b = H b) ∧ Rp K (cut A H') v x
def YI {α : Type} [DecidableEq α] [Datum α] (K : PySem.W.Frag) (B : Bs) (g : Slots) (L : Ls) (wi : TI) (xs : List α) : Prop :=
  ∀ s H, At B g L s H → ∀ R : It → Hp → Prop, (∀ J S H', Le B.W.M H H' → B.W.J H' → Wk K J xs S → S (vw B L H') (vw B L H') → R J H') → wi s H R
def YIL {α : Type} [DecidableEq α] [Datum α] (K : PySem.W.Frag) (B : Bs) (g : Slots) (L : Ls) (wi : TI) (xs : List α) : Prop :=
  ∀ s H, At B g L s H → ∀ R : It → Hp → Prop, (∀ J S H', Le B.W.M H H' → B.W.J H' → Wk K J xs S → S (lw B H') (vw B L H') → R J H') → wi s H R
theorem YI.loose {wi : TI} {xs : List α} (h : YI K B g L wi xs) : YIL K B g L wi xs := fun s H a R k => h s H a R fun J S H' e j w q => k J S H' e j w (w.mono (Hd.vl (a.hd.step e j)) (Same.refl _) q)
theorem wk_list {a : Addr} {vs : List V} {xs : List α} (hl : vs.length = xs.length) : Wk K (Itl K a) xs (fun H N => SqL K H a vs ∧ RpA K N vs xs) where
  mono := fun e f q => ⟨e.seq q.1, q.2.same f⟩
  go := fun i H N hi q => walk_list.goes i H (by rw [hl]; exact hi) q.1
  stop := fun H N q => by rw [← hl]; exact walk_list.stops H q.1
  yld := fun A i H v H' x av q hx y => by
    obtain ⟨e, y⟩ := y
    subst e
    refine ⟨fun _ _ => rfl, ?_⟩
    have hv := y vs q.1
    obtain ⟨x', e1, e2⟩ := q.2.at_ hv
    rw [hx] at e1
    cases e1
    exact e2
theorem wk_tup {a : Addr} {vs : List V} {xs : List α} (hl : vs.length = xs.length) : Wk K (Itt K a) xs (fun H N => SqT K H a vs ∧ RpA K N vs xs) where
  mono := fun e f q => ⟨sameT e q.1, q.2.same f⟩
  go := fun i H N hi q => walk_tup.goes i H (by rw [hl]; exact hi) q.1
  stop := fun H N q => by rw [← hl]; exact walk_tup.stops H q.1
  yld := fun A i H v H' x av q hx y => by
    obtain ⟨e, y⟩ := y
    subst e
    refine ⟨fun _ _ => rfl, ?_⟩
    have hv := y vs q.1
    obtain ⟨x', e1, e2⟩ := q.2.at_ hv
    rw [hx] at e1
    cases e1
    exact e2
theorem yi_tup {xs : List α} (h : Y B g L te (Is K (Tup.mk xs))) : YI K B g L (iTup K te) xs := fun s H a R k => h s H a _ fun v H1 e j p => by
  obtain ⟨b, vs, rfl, hs, hv⟩ := tup_rp p
  exact ⟨b, rfl, ⟨vs, sameT vw_same hs⟩, k _ _ H1 e j (wk_tup hv.length) ⟨hs, hv⟩⟩
theorem yi_list {xs : List α} (h : Y B g L te (Is K xs)) : YI K B g L (iList K te) xs := fun s H a R k => h s H a _ fun v H1 e j p => by
  obtain ⟨b, vs, rfl, hs, hv⟩ := lst_rp p
  exact ⟨b, rfl, ⟨vs, vw_same.seq hs⟩, k _ _ H1 e j (wk_list hv.length) ⟨hs, hv⟩⟩
theorem yil_list {xs : List α} (h : YQ K B g L te xs) : YIL K B g L (iList K te) xs := fun s H a R k => h s H a _ fun v H1 e j p => by
  obtain ⟨b, vs, rfl, hs, hv⟩ := p
  exact ⟨b, rfl, ⟨vs, lw_same.seq hs⟩, k _ _ H1 e j (wk_list hv.length) ⟨hs, hv⟩⟩
/-- lo, lo + 1, .., n of them -/
def rngI (lo : Int) (n : Nat) : List Int := (List.range n).map fun (i : Nat) => lo + (i : Int)
theorem rngI_at {lo : Int} {n i : Nat} {x : Int} (h : (rngI lo n)[i]? = some x) : i < n ∧ x = lo + (i : Int) := by
  unfold rngI at h
  rw [List.getElem?_map] at h
  by_cases hi : i < n
  · rw [List.getElem?_range hi] at h
    exact ⟨hi, (Option.some.inj h).symm⟩
  · rw [List.getElem?_eq_none (by rw [List.length_range]; omega)] at h
    cases h
theorem rngI_length {lo : Int} {n : Nat} : (rngI lo n).length = n := by unfold rngI; rw [List.length_map, List.length_range]
theorem wk_range {lo : Int} {n : Nat} : Wk K (Itr lo n) (rngI lo n) (fun _ _ => True) where
  mono := fun _ _ q => q
  go := fun i H N hi q => by rw [rngI_length] at hi; exact hi
  stop := fun H N q => by rw [rngI_length]; exact Nat.le_refl n
  yld := fun A i H v H' x av q hx y => by
    obtain ⟨e, y⟩ := y
    subst e y
    rw [(rngI_at hx).2]
    exact ⟨fun _ _ => rfl, rp_int _⟩
theorem yi_range1 {j : Int} (h : YAL B g L ta [Is K j]) (h1 : -(2 ^ 62) ≤ j) (h2 : j < 2 ^ 62) : YI K B g L (iRng1 ta) (rngI 0 j.toNat) := fun s H a R k => h s H a _ fun vs H1 e j' p => by
  cases p with
  | cons p1 p =>
    cases p
    exact ⟨j, by rw [int_rp p1], h1, h2, k _ _ H1 e j' wk_range trivial⟩
theorem yi_range1E {A : Int → Prop} {P : TI → Prop} (h : YAL B g L ta [Ex K A]) (hb : ∀ j, A j → -(2 ^ 62) ≤ j ∧ j < 2 ^ 62) :
    ∀ s H, At B g L s H → ∀ R : It → Hp → Prop, (∀ j J S H', A j → Le B.W.M H H' → B.W.J H' → Wk K J (rngI 0 j.toNat) S → S (vw B L H') (vw B L H') → R J H') → iRng1 ta s H R := fun s H a R k => h s H a _ fun vs H1 e j' p => by
  cases p with
  | cons p1 p =>
    cases p
    obtain ⟨j, ja, r⟩ := p1
    exact ⟨j, by rw [int_rp r], (hb j ja).1, (hb j ja).2, k j _ _ H1 ja e j' wk_range trivial⟩
theorem yi_range2 {i j : Int} (h : YAL B g L ta [Is K i, Is K j]) (h1 : -(2 ^ 62) ≤ i ∧ i < 2 ^ 62 ∧ -(2 ^ 62) ≤ j ∧ j < 2 ^ 62) : YI K B g L (iRng2 ta) (rngI i (j - i).toNat) := fun s H a R k => h s H a _ fun vs H1 e j' p => by
  cases p with
  | cons p1 p =>
    cases p with
    | cons p2 p =>
      cases p
      exact ⟨i, j, by rw [int_rp p1, int_rp p2], h1, k _ _ H1 e j' wk_range trivial⟩
/-- a new pair a turn -/
theorem pair_yld {A : List Addr} {H H' : Hp} {v a b : V} {x : α} {y : β} {T : Addr} (av : ∀ a, a ∈ A → H a ≠ none) (hT : H T = none) (ev : v = .ref T) (eH : H' = upd H T (.tup [a, b])) (r1 : Rp K (cut A H) a x) (r2 : Rp K (cut A H) b y) :
    (∀ b, H b ≠ none → H' b = H b) ∧ Rp K (cut A H') v (x, y) := by
  subst ev eH
  have hTA : T ∉ A := fun z => av T z hT
  have e : Same (cut A H) (cut A (upd H T (.tup [a, b]))) := fun c o q => by
    obtain ⟨h1, h2⟩ := cut_of q
    rw [cut_out h1, upd_ne (ne_of_none h2 hT)]; exact h2
  exact ⟨fun c hc => upd_ne fun z => hc (by rw [z]; exact hT), rp_pair (by rw [cut_out hTA]; exact upd_same) (r1.same e) (r2.same e)⟩
/-- two sequences of data -/
def SqD {α : Type} [DecidableEq α] [Datum α] (b : Bool) (K : PySem.W.Frag) (H : Hp) (v : V) (xs : List α) : Prop := match b with
  | true => Rp K H v (Tup.mk xs)
  | false => Rp K H v xs
theorem sqd {b : Bool} {H : Hp} {v : V} {xs : List α} (h : SqD b K H v xs) : ∃ a vs, v = .ref a ∧ Sq b K H a vs ∧ RpA K H vs xs := by
  cases b
  · exact lst_rp h
  · exact tup_rp h
theorem sq_same {b : Bool} {H H' : Hp} {a : Addr} {vs : List V} (e : Same H H') (h : Sq b K H a vs) : Sq b K H' a vs := by
  cases b
  · exact e.seq h
  · exact sameT e h
def IsQ {α : Type} [DecidableEq α] [Datum α] (K : PySem.W.Frag) (b : Bool) (xs : List α) : Sl := match b with
  | true => Is K (Tup.mk xs)
  | false => Is K xs
theorem isq {b : Bool} {H : Hp} {v : V} {xs : List α} (h : (IsQ K b xs).p v H) : ∃ a vs, v = .ref a ∧ Sq b K H a vs ∧ RpA K H vs xs := by
  cases b
  · exact lst_rp h
  · exact tup_rp h
theorem wk_zip {b1 b2 : Bool} {a b : Addr} {vs ws : List V} {xs : List α} {ys : List β} (h1 : vs.length = xs.length) (h2 : ws.length = ys.length) :
    Wk K (ItzG K b1 b2 a b) (xs.zip ys) (fun H N => (Sq b1 K H a vs ∧ Sq b2 K H b ws) ∧ RpA K N vs xs ∧ RpA K N ws ys) where
  mono := fun e f q => ⟨⟨sq_same e q.1.1, sq_same e q.1.2⟩, q.2.1.same f, q.2.2.same f⟩
  go := fun i H N hi q => (walk_zipG (n := min vs.length ws.length) rfl).goes i H (by rw [List.length_zip] at hi; rw [h1, h2]; exact hi) q.1
  stop := fun H N q => by
    rw [List.length_zip, ← h1, ← h2]
    exact (walk_zipG rfl).stops H q.1
  yld := fun A i H v H' x av q hx y => by
    have hi : i < min vs.length ws.length := by
      have := (List.getElem?_eq_some_iff.mp hx).1
      rw [List.length_zip] at this
      rw [h1, h2]; exact this
    obtain ⟨T, p, r, e1, e2, e3, e4, e5⟩ := (walk_zipG (n := min vs.length ws.length) rfl).yields i H v H' hi q.1 y
    obtain ⟨x1, f1, r1⟩ := q.2.1.at_ e4
    obtain ⟨y1, f2, r2⟩ := q.2.2.at_ e5
    have ex : x = (x1, y1) := by
      obtain ⟨g1, g2⟩ := List.getElem?_zip_eq_some.mp hx
      rw [f1] at g1
      rw [f2] at g2
      exact Prod.ext (Option.some.inj g1).symm (Option.some.inj g2).symm
    subst ex
    exact pair_yld av e2 e1 e3 r1 r2
theorem yi_zip {b1 b2 : Bool} {xs : List α} {ys : List β} (h : YA B g L ta [IsQ K b1 xs, IsQ K b2 ys]) : YI K B g L (iZipG K b1 b2 ta) (xs.zip ys) := fun s H a R k => h s H a _ fun vs H1 e j p => by
  cases p with
  | cons p1 p =>
    cases p with
    | cons p2 p =>
      cases p
      obtain ⟨b, us, rfl, hs, hv⟩ := isq p1
      obtain ⟨c, ws, rfl, hs2, hv2⟩ := isq p2
      exact ⟨b, c, us, ws, rfl, sq_same vw_same hs, sq_same vw_same hs2, k _ _ H1 e j (wk_zip hv.length hv2.length) ⟨⟨hs, hs2⟩, hv, hv2⟩⟩
def enumI {α : Type} (xs : List α) : List (Int × α) := xs.zipIdx.map fun p => ((p.2 : Nat), p.1)
theorem enumI_at {xs : List α} {i : Nat} {x : Int × α} (h : (enumI xs)[i]? = some x) : ∃ y, xs[i]? = some y ∧ x = ((i : Int), y) := by
  unfold enumI at h
  rw [List.getElem?_map, List.getElem?_zipIdx] at h
  cases q : xs[i]? with
  | none => rw [q] at h; cases h
  | some y =>
    rw [q] at h
    exact ⟨y, rfl, by have := Option.some.inj h; rw [← this]; simp⟩
theorem wk_enum {b : Bool} {a : Addr} {vs : List V} {xs : List α} (h1 : vs.length = xs.length) : Wk K (IteG K b a) (enumI xs) (fun H N => Sq b K H a vs ∧ RpA K N vs xs) where
  mono := fun e f q => ⟨sq_same e q.1, q.2.same f⟩
  go := fun i H N hi q => walk_enumG.goes i H (by unfold enumI at hi; rw [List.length_map, List.length_zipIdx] at hi; rw [h1]; exact hi) q.1
  stop := fun H N q => by
    unfold enumI
    rw [List.length_map, List.length_zipIdx, ← h1]
    exact walk_enumG.stops H q.1
  yld := fun A i H v H' x av q hx y => by
    obtain ⟨y0, f0, rfl⟩ := enumI_at hx
    have hi : i < vs.length := by
      rw [h1]; exact (List.getElem?_eq_some_iff.mp f0).1
    obtain ⟨T, p, r, e1, e2, e3, e4, e5⟩ := walk_enumG.yields i H v H' hi q.1 y
    obtain ⟨y1, f2, r2⟩ := q.2.at_ e5
    rw [f0] at f2
    cases f2
    cases e4
    exact pair_yld av e2 e1 e3 (rp_int _) r2
theorem yi_enum {b : Bool} {xs : List α} (h : YA B g L ta [IsQ K b xs]) : YI K B g L (iEnumG K b ta) (enumI xs) := fun s H a R k => h s H a _ fun vs H1 e j p => by
  cases p with
  | cons p1 p =>
    cases p
    obtain ⟨c, us, rfl, hs, hv⟩ := isq p1
    exact ⟨c, us, rfl, sq_same vw_same hs, k _ _ H1 e j (wk_enum hv.length) ⟨hs, hv⟩⟩
/-- a text's signs -/
theorem wk_str {z : Str} : Wk K (Its z) (z.cps.toList.map fun c => (⟨#[c]⟩ : Str)) (fun _ _ => True) where
  mono := fun _ _ q => q
  go := fun i H N hi q => by
    rw [List.length_map, Array.length_toList] at hi
    exact walk_str.goes i H hi trivial
  stop := fun H N q => by
    rw [List.length_map, Array.length_toList]
    exact walk_str.stops H trivial
  yld := fun A i H v H' x av q hx y => by
    have hi : i < z.cps.size := by
      have := (List.getElem?_eq_some_iff.mp hx).1
      rw [List.length_map, Array.length_toList] at this
      exact this
    obtain ⟨e, c, hc, hv⟩ := walk_str.yields i H v H' hi trivial y
    subst e hv
    rw [List.getElem?_map, Array.getElem?_toList, hc] at hx
    cases hx
    exact ⟨fun _ _ => rfl, rp_str _⟩
end
end G
set_option Elab.async false
set_option linter.all false
set_option maxRecDepth 100000
set_option maxHeartbeats 4000000
/-! The rules over data, part e: comprehensions. -/
namespace G
open PySem PySem.Spec PyProof.Rows L2 PySem.W
theorem pd_append {α β : Type} {R : α → β → Prop} : ∀ {xs xs' : List α} {ys ys' : List β}, Paired R xs ys → Paired R xs' ys' → Paired R (xs ++ xs') (ys ++ ys')
  | _, _, _, _, .nil, q => q
  | _, _, _, _, .cons r p, q => .cons r (pd_append p q)
section
variable {K : PySem.W.Frag} {B : Bs} {g : Slots} {L : Ls} {te t1 t2 t3 : TE} {tt tu : TT} {ta : TA} {t u w : Sl}
variable {α β γ : Type} [DecidableEq α] [Datum α] [DecidableEq β] [Datum β] [DecidableEq γ] [Datum γ]
/-- the state within: the list being made stands at D -/
structure Mk {β : Type} [DecidableEq β] [Datum β] (K : PySem.W.Frag) (B : Bs) (g : Slots) (L : Ls) (s : L2.St) (D : Addr) (ys : List β) (H : Hp) : Prop where
  at_ : At (B.add D) g L s H
  lst : ∃ acc, H D = some (.lst acc) ∧ RpA K (vw (B.add D) L H) acc ys
theorem Mk.step {s : L2.St} {D : Addr} {ys : List β} {H H' : Hp} (m : Mk K B g L s D ys H) (hD : D ∉ B.W.M) (e : Le B.W.M H H') (j : B.W.J H') : Mk K B g L s D ys H' := by
  obtain ⟨acc, e1, e2⟩ := m.lst
  exact ⟨m.at_.step e j, acc, e _ _ hD e1, e2.same (m.at_.hd.same (B := B.add D) e)⟩
theorem vw_poke {D : Addr} {o : HO} {H : Hp} : vw (B.add D) L (upd H D o) = vw (B.add D) L H := by
  funext b
  show cut (L.map (·.1) ++ (D :: B.A)) _ b = cut (L.map (·.1) ++ (D :: B.A)) _ b
  by_cases hb : b ∈ L.map (·.1) ++ (D :: B.A)
  · rw [cut_in hb, cut_in hb]
  · rw [cut_out hb, cut_out hb, upd_ne fun z => hb (by rw [z]; exact List.mem_append_right _ List.mem_cons_self)]
theorem Mk.push {s : L2.St} {D : Addr} {ys : List β} {H : Hp} {v : V} {y : β} (m : Mk K B g L s D ys H) (hD : D ∉ B.W.M) (h0 : B.H0 D = none) (r : Rp K (vw (B.add D) L H) v y) :
    ∃ acc, H D = some (.lst acc) ∧ acc.length = ys.length ∧ Mk K B g L s D (ys ++ [y]) (upd H D (.lst (acc ++ [v]))) := by
  obtain ⟨acc, e1, e2⟩ := m.lst
  refine ⟨acc, e1, e2.length, m.at_.poke (B := B.add D) List.mem_cons_self hD h0, acc ++ [v], upd_same, ?_⟩
  rw [vw_poke]
  exact e2.snoc r
def lcGo (J : It) (gt : TG) (tt : TT) (bd : L2.St → Hp → (Hp → Prop) → Prop) (s : L2.St) (vs : List Nat) (Qd : Hp → Prop) (H1 : Hp) : Prop :=
  ∃ W : Nat → Nat → Hp → Prop, (∃ m, W 0 m H1) ∧ ∀ i m H, W i m H → (J.stop i H ∧ Qd H) ∨ (J.go i H ∧ ∃ Nx : Hp → Prop, (∀ H', Nx H' → ∃ m', m' < m ∧ W (i + 1) m' H') ∧
    ∀ x H', J.yld i H x H' → gt x (wipe s vs) H' fun s2 H2 => wipe s2 vs = wipe s vs ∧ tt s2 H2 fun b H3 => if b = true then bd s2 H3 Nx else Nx H3)
theorem cutc_step {D : Addr} {H H' : Hp} (e : Le (D :: B.W.M) H H') : Same (cut (D :: B.W.M) H) (cut (D :: B.W.M) H') := cut_le (fun _ h => h) e
theorem Le.cons {D : Addr} {M : List Addr} {H H' : Hp} (e : Le M H H') : Le (D :: M) H H' := fun b o hb q => e b o (fun z => hb (List.mem_cons_of_mem _ z)) q
theorem Le.poke {D : Addr} {M : List Addr} {o : HO} {H : Hp} : Le (D :: M) H (upd H D o) := fun b u hb q => by rw [upd_ne fun z => hb (by rw [z]; exact List.mem_cons_self)]; exact q
/-- the loop of a comprehension: xs walked, a chunk of data a turn -/
theorem lc_loop {J : It} {gt : TG} {bd : L2.St → Hp → (Hp → Prop) → Prop} {s : L2.St} {vs : List Nat} {Qd : Hp → Prop} {H1 : Hp} {D : Addr} {xs : List α} {S : Hp → Hp → Prop} {c : α → Bool} {us : α → List (Nat × Sl)} {R : α → List β → Prop} {n : α → Nat} {ys0 : List β}
    (w : Wk K J xs S) (hD : D ∉ B.W.M) (h0 : B.H0 D = none) (hR : ∀ x zs, x ∈ xs → R x zs → zs.length ≤ n x) (hz : ys0.length + (xs.map n).sum ≤ sizeLine)
    (hg : ∀ x, x ∈ xs → YG (B.add D) L gt (Is K x) (us x)) (hu : ∀ x, x ∈ xs → ∀ i, i ∈ (us x).map (·.1) → i ∈ vs) (ht : ∀ x, x ∈ xs → YT (B.add D) (setg (wipeg g vs) (us x)) L tt (c x))
    (hb : ∀ x ys s2 H3 (Nx : Hp → Prop), x ∈ xs → c x = true → ys.length + n x ≤ sizeLine → At (B.add D) (setg (wipeg g vs) (us x)) L s2 H3 → Mk K B g L s D ys H3 → (∀ zs H', Mk K B g L s D (ys ++ zs) H' → Le (D :: B.W.M) H3 H' → B.W.J H' → R x zs → Nx H') → bd s2 H3 Nx)
    (m : Mk K B g L s D ys0 H1) (hS : S (cut (D :: B.W.M) H1) (vw (B.add D) L H1))
    (fin : ∀ yss H', Mk K B g L s D (ys0 ++ yss.flatten) H' → Le (D :: B.W.M) H1 H' → B.W.J H' → Paired R (xs.filter c) yss → Qd H') : lcGo J gt tt bd s vs Qd H1 := by
  refine ⟨fun i k H => k = xs.length - i ∧ i ≤ xs.length ∧ ∃ yss, Mk K B g L s D (ys0 ++ yss.flatten) H ∧ Le (D :: B.W.M) H1 H ∧ B.W.J H ∧ Paired R ((xs.take i).filter c) yss ∧ yss.flatten.length ≤ ((xs.take i).map n).sum,
    ⟨xs.length, by simp, Nat.zero_le _, [], by simpa using m, Le.refl _ _, m.at_.hd.ok.j, .nil, Nat.zero_le _⟩, ?_⟩
  rintro i k H ⟨rfl, hi, yss, m2, e2, j2, pr, hl⟩
  have hS2 : S (cut (D :: B.W.M) H) (vw (B.add D) L H) := w.mono (cutc_step e2) (by
    refine fun b o q => ?_
    obtain ⟨q1, q2⟩ := cut_of q
    show cut (L.map (·.1) ++ (B.add D).A) H b = some o
    rw [cut_out q1]
    refine e2 b o (fun z => q1 ?_) q2
    rcases List.mem_cons.mp z with z | z
    · rw [z]; exact List.mem_append_right _ List.mem_cons_self
    · exact List.mem_append_right _ (m.at_.hd.ok.sub b z)) hS
  by_cases hlt : i < xs.length
  · refine .inr ⟨w.go i H _ hlt (w.mono cut_same (Same.refl _) hS2), fun H' => ∃ yss', Mk K B g L s D (ys0 ++ yss'.flatten) H' ∧ Le (D :: B.W.M) H1 H' ∧ B.W.J H' ∧ Paired R ((xs.take (i + 1)).filter c) yss' ∧ yss'.flatten.length ≤ ((xs.take (i + 1)).map n).sum,
      fun H' p => ⟨xs.length - (i + 1), by omega, rfl, hlt, p⟩, fun v H' y => ?_⟩
    have hx : xs[i]? = some xs[i] := List.getElem?_eq_getElem hlt
    have hm : xs[i] ∈ xs := List.getElem_mem hlt
    have av : ∀ a, a ∈ L.map (·.1) ++ (B.add D).A → H a ≠ none := m2.at_.hd.full.av
    obtain ⟨kp, r⟩ := w.yld (L.map (·.1) ++ (B.add D).A) i H v H' _ av (w.mono cut_same (Same.refl _) hS2) hx y
    have e3 : Le B.W.M H H' := fun b o _ q => by rw [kp b (by rw [q]; exact fun z => by cases z)]; exact q
    have j3 : B.W.J H' := B.W.jd (fun b hb => kp b (B.W.jm j2 b hb)) j2
    have m3 := m2.step hD e3 j3
    have tk : xs.take (i + 1) = xs.take i ++ [xs[i]] := List.take_succ_eq_append_getElem hlt
    refine hg _ hm (wipe s vs) H' v m3.at_.hd r _ fun ws pw => ⟨(sets_out (hu _ hm)).trans wipe_wipe, ?_⟩
    have a4 : At (B.add D) (setg (wipeg g vs) (us xs[i])) L (sets (wipe s vs) ((us xs[i]).map (·.1)) ws) H' := ⟨m3.at_.hd, Sg.sets m3.at_.sg.wipe pw⟩
    refine ht _ hm _ H' a4 _ fun b H4 e4 j4 p4 => ?_
    subst p4
    have a5 := a4.step (B := B.add D) e4 j4
    have m5 := m3.step hD e4 j4
    cases hc : c xs[i] with
    | true =>
      have bound : (ys0 ++ yss.flatten).length + n xs[i] ≤ sizeLine := by
        have h1 : ((xs.take (i + 1)).map n).sum ≤ (xs.map n).sum := by
          conv => rhs; rw [← List.take_append_drop (i + 1) xs, List.map_append, List.sum_append]
          exact Nat.le_add_right _ _
        rw [tk, List.map_append, List.sum_append] at h1
        simp only [List.map_cons, List.map_nil, List.sum_cons, List.sum_nil] at h1
        rw [List.length_append]
        omega
      rw [if_pos rfl]
      refine hb _ _ _ _ _ hm hc bound a5 m5 fun zs H5 m6 e6 j6 rz => ⟨yss ++ [zs], ?_, ((e2.trans e3.cons).trans e4.cons).trans e6, j6, ?_, ?_⟩
      · rw [List.flatten_append, ← List.append_assoc]
        simpa using m6
      · rw [tk, List.filter_append]
        have : [xs[i]].filter c = [xs[i]] := by simp [hc]
        rw [this]
        exact pd_append pr (.cons rz .nil)
      · rw [tk, List.map_append, List.sum_append, List.flatten_append, List.length_append]
        have := hR _ zs hm rz
        simp only [List.map_cons, List.map_nil, List.sum_cons, List.sum_nil, List.flatten_cons, List.flatten_nil, List.append_nil]
        omega
    | false =>
      rw [if_neg Bool.false_ne_true]
      refine ⟨yss, m5, (e2.trans e3.cons).trans e4.cons, j4, ?_, ?_⟩
      · rw [tk, List.filter_append]
        have : [xs[i]].filter c = [] := by simp [hc]
        rw [this, List.append_nil]
        exact pr
      · rw [tk, List.map_append, List.sum_append]
        omega
  · have e : i = xs.length := by omega
    subst e
    rw [List.take_length] at pr
    exact .inl ⟨w.stop H _ (w.mono cut_same (Same.refl _) hS2), fin yss H m2 e2 j2 pr⟩
/-! ### one clause -/
theorem filter_len (c : α → Bool) (xs : List α) : (xs.filter c).length ≤ xs.length := List.length_filter_le _ _
theorem sum_ones : ∀ xs : List α, (xs.map fun _ => 1).sum = xs.length
  | [] => rfl
  | _ :: xs => by rw [List.map_cons, List.sum_cons, sum_ones xs, List.length_cons]; omega
theorem pd_ones {R : α → β → Prop} : ∀ {xs : List α} {yss : List (List β)}, Paired (fun x zs => ∃ y, zs = [y] ∧ R x y) xs yss → Paired R xs yss.flatten
  | _, _, .nil => .nil
  | _, _, .cons r p => by
    obtain ⟨y, rfl, ry⟩ := r
    exact .cons ry (pd_ones p)
theorem init_mk {s : L2.St} {H H1 : Hp} {D : Addr} (a : At B g L s H) (e : Le B.W.M H H1) (j : B.W.J H1) (hD : H1 D = none) : Mk K B g L s D ([] : List β) (upd H1 D (.lst [])) :=
  ⟨(a.step e j).addA hD, [], upd_same, RpA.nil⟩
theorem init_S {s : L2.St} {H H1 : Hp} {D : Addr} {J : It} {xs : List α} {S : Hp → Hp → Prop} (a : At B g L s H) (e : Le B.W.M H H1) (j : B.W.J H1) (hD : H1 D = none) (w : Wk K J xs S) (q : S (lw B H1) (vw B L H1)) :
    S (cut (D :: B.W.M) (upd H1 D (.lst []))) (vw (B.add D) L (upd H1 D (.lst []))) := w.mono (fun b o h => by
      obtain ⟨q1, q2⟩ := cut_of h
      have hb : b ≠ D := ne_of_none q2 hD
      rw [cut_out fun z => (List.mem_cons.mp z).elim hb q1, upd_ne hb]; exact q2) (vw_add (a.step e j).hd hD (Le.laid hD)) q
end
section
variable {K : PySem.W.Frag} {B : Bs} {g : Slots} {L : Ls} {te t1 t2 t3 : TE} {tt tu : TT} {ta : TA} {t u w : Sl}
variable {α β γ : Type} {_ : DecidableEq α} {_ : Datum α} {_ : DecidableEq β} {_ : Datum β} {_ : DecidableEq γ} {_ : Datum γ}
theorem yf_lcR {wi : TI} {gt : TG} {vs : List Nat} {xs : List α} {c : α → Bool} {us : α → List (Nat × Sl)} {R : α → β → Prop} (hi : YIL K B g L wi xs) (hz : xs.length ≤ sizeLine)
    (hg : ∀ D x, x ∈ xs → YG (B.add D) L gt (Is K x) (us x)) (hu : ∀ x, x ∈ xs → ∀ i, i ∈ (us x).map (·.1) → i ∈ vs) (ht : ∀ D x, x ∈ xs → YT (B.add D) (setg (wipeg g vs) (us x)) L tt (c x))
    (he : ∀ D x, x ∈ xs → c x = true → Y (B.add D) (setg (wipeg g vs) (us x)) L te (Ex K (R x))) : YF K B g L (tLc wi gt tt te vs) (fun ys => Paired R (xs.filter c) ys) := fun s H a Q k =>
  hi s H a _ fun J S H1 e1 j1 w q D hD => by
    have hDM : D ∉ B.W.M := fun z => B.W.jm j1 D z hD
    have h0 : B.H0 D = none := (a.step e1 j1).hd.h0 hD
    refine lc_loop (K := K) (B := B) (g := g) (L := L) (R := fun x zs => ∃ y, zs = [y] ∧ R x y) (n := fun _ => 1) (ys0 := []) (bd := fun s2 H3 Nx => te s2 H3 fun y H4 => ∃ acc, H4 D = some (.lst acc) ∧ acc.length < sizeLine ∧ Nx (upd H4 D (.lst (acc ++ [y]))))
      w hDM h0 (fun x zs _ ⟨y, e, _⟩ => by rw [e]; exact Nat.le_refl 1) (by rw [sum_ones]; simpa using hz) (hg D) hu (ht D) (fun x ys s2 H3 Nx hx hc hb a3 m3 nx => ?_) (init_mk a e1 j1 hD) (init_S a e1 j1 hD w q) (fun yss H' m e j p => ?_)
    · refine he D x hx hc s2 H3 a3 _ fun v H4 e4 j4 p4 => ?_
      obtain ⟨y, ry, rp⟩ := p4
      obtain ⟨acc, l1, l2, m5⟩ := (m3.step hDM e4 j4).push hDM h0 rp
      exact ⟨acc, l1, by omega, nx [y] _ m5 (e4.cons.trans Le.poke) (B.W.jd (fun b hb => upd_ne fun z => hDM (by rw [← z]; exact hb)) j4) ⟨y, rfl, ry⟩⟩
    · obtain ⟨acc, l1, l2⟩ := m.lst
      refine k D acc yss.flatten H' (none_back e1 j1 hD) l1 m.at_ (fun b o hb h => ?_) l2 (pd_ones p)
      have hbD : b ≠ D := fun z => by rw [z, none_back e1 j1 hD] at h; cases h
      exact e b o (fun z => (List.mem_cons.mp z).elim hbD hb) (by rw [upd_ne hbD]; exact e1 b o hb h)
theorem pd_map {f : α → β} : ∀ {xs : List α} {ys : List β}, Paired (fun x y => y = f x) xs ys → ys = xs.map f
  | _, _, .nil => rfl
  | _, _, .cons r p => by rw [r, pd_map p]; rfl
theorem yf_lc {wi : TI} {gt : TG} {vs : List Nat} {xs : List α} {c : α → Bool} {us : α → List (Nat × Sl)} {f : α → β} (hi : YIL K B g L wi xs) (hz : xs.length ≤ sizeLine)
    (hg : ∀ D x, x ∈ xs → YG (B.add D) L gt (Is K x) (us x)) (hu : ∀ x, x ∈ xs → ∀ i, i ∈ (us x).map (·.1) → i ∈ vs) (ht : ∀ D x, x ∈ xs → YT (B.add D) (setg (wipeg g vs) (us x)) L tt (c x))
    (he : ∀ D x, x ∈ xs → c x = true → Y (B.add D) (setg (wipeg g vs) (us x)) L te (Is K (f x))) : YF K B g L (tLc wi gt tt te vs) (· = (xs.filter c).map f) :=
  (yf_lcR (R := fun x y => y = f x) hi hz hg hu ht fun D x hx hc => (he D x hx hc).ex rfl).imp fun _ p => pd_map p
/-- no test -/
theorem yf_lc1 {wi : TI} {gt : TG} {vs : List Nat} {xs : List α} {us : α → List (Nat × Sl)} {f : α → β} (hi : YIL K B g L wi xs) (hz : xs.length ≤ sizeLine)
    (hg : ∀ D x, x ∈ xs → YG (B.add D) L gt (Is K x) (us x)) (hu : ∀ x, x ∈ xs → ∀ i, i ∈ (us x).map (·.1) → i ∈ vs) (he : ∀ D x, x ∈ xs → Y (B.add D) (setg (wipeg g vs) (us x)) L te (Is K (f x))) : YF K B g L (tLc wi gt tYes te vs) (· = xs.map f) :=
  (yf_lc (c := fun _ => true) hi hz hg hu (fun D x _ => yt_yes) fun D x hx _ => he D x hx).imp fun _ p => by
    have e : xs.filter (fun _ => true) = xs := List.filter_eq_self.mpr fun _ _ => rfl
    rw [p, e]
theorem yf_lc1R {wi : TI} {gt : TG} {vs : List Nat} {xs : List α} {us : α → List (Nat × Sl)} {R : α → β → Prop} (hi : YIL K B g L wi xs) (hz : xs.length ≤ sizeLine)
    (hg : ∀ D x, x ∈ xs → YG (B.add D) L gt (Is K x) (us x)) (hu : ∀ x, x ∈ xs → ∀ i, i ∈ (us x).map (·.1) → i ∈ vs) (he : ∀ D x, x ∈ xs → Y (B.add D) (setg (wipeg g vs) (us x)) L te (Ex K (R x))) : YF K B g L (tLc wi gt tYes te vs) (fun ys => Paired R xs ys) :=
  (yf_lcR (c := fun _ => true) hi hz hg hu (fun D x _ => yt_yes) fun D x hx _ => he D x hx).imp fun _ p => by
    have e : xs.filter (fun _ => true) = xs := List.filter_eq_self.mpr fun _ _ => rfl
    rw [e] at p
    exact p
/-! ### two clauses -/
theorem pd_flat {f : α → List β} : ∀ {xs : List α} {yss : List (List β)}, Paired (fun x zs => zs = f x) xs yss → yss.flatten = xs.flatMap f
  | _, _, .nil => rfl
  | _, _, .cons r p => by rw [List.flatten_cons, r, pd_flat p]; rfl
theorem Mk.slots {g' : Slots} {s s' : L2.St} {D : Addr} {ys : List β} {H : Hp} (m : Mk K B g L s D ys H) (q : Sg g' s' (vw (B.add D) L H)) : Mk K B g' L s' D ys H := ⟨⟨m.at_.hd, q⟩, m.lst⟩
end
section
variable {K : PySem.W.Frag} {B : Bs} {g : Slots} {L : Ls} {te t1 t2 t3 : TE} {tt tu : TT} {ta : TA} {t u w : Sl}
variable {α β γ : Type} [DecidableEq α] [Datum α] [DecidableEq β] [Datum β] [DecidableEq γ] [Datum γ]
theorem vw_cons {D : Addr} {H H' : Hp} (h : Hd (B.add D) L H) (e : Le (D :: B.W.M) H H') : Same (vw (B.add D) L H) (vw (B.add D) L H') := fun b o q => by
  obtain ⟨q1, q2⟩ := cut_of q
  show cut (L.map (·.1) ++ (B.add D).A) H' b = some o
  rw [cut_out q1]
  refine e b o (fun z => q1 ?_) q2
  rcases List.mem_cons.mp z with z | z
  · rw [z]; exact List.mem_append_right _ List.mem_cons_self
  · exact List.mem_append_right _ (h.ok.sub b z)
end
section
variable {K : PySem.W.Frag} {B : Bs} {g : Slots} {L : Ls} {te t1 t2 t3 : TE} {tt tu : TT} {ta : TA} {t u w : Sl}
variable {α β γ : Type} {_ : DecidableEq α} {_ : Datum α} {_ : DecidableEq β} {_ : Datum β} {_ : DecidableEq γ} {_ : Datum γ}
theorem yf_lc2 {wi wi1 : TI} {gt gt1 : TG} {tt1 : TT} {vs vs1 : List Nat} {xs : List α} {zs : α → List γ} {c : α → Bool} {c1 : α → γ → Bool} {us : α → List (Nat × Sl)} {us1 : α → γ → List (Nat × Sl)} {f : α → γ → β} (hi : YIL K B g L wi xs)
    (hz : (xs.map fun x => (zs x).length).sum ≤ sizeLine)
    (hg : ∀ D x, x ∈ xs → YG (B.add D) L gt (Is K x) (us x)) (hu : ∀ x, x ∈ xs → ∀ i, i ∈ (us x).map (·.1) → i ∈ vs) (ht : ∀ D x, x ∈ xs → YT (B.add D) (setg (wipeg g vs) (us x)) L tt (c x))
    (hi1 : ∀ D x, x ∈ xs → c x = true → YI K (B.add D) (setg (wipeg g vs) (us x)) L wi1 (zs x))
    (hg1 : ∀ D x z, x ∈ xs → z ∈ zs x → YG (B.add D) L gt1 (Is K z) (us1 x z)) (hu1 : ∀ x z, x ∈ xs → z ∈ zs x → ∀ i, i ∈ (us1 x z).map (·.1) → i ∈ vs1)
    (ht1 : ∀ D x z, x ∈ xs → c x = true → z ∈ zs x → YT (B.add D) (setg (wipeg (setg (wipeg g vs) (us x)) vs1) (us1 x z)) L tt1 (c1 x z))
    (he : ∀ D x z, x ∈ xs → c x = true → z ∈ zs x → c1 x z = true → Y (B.add D) (setg (wipeg (setg (wipeg g vs) (us x)) vs1) (us1 x z)) L te (Is K (f x z))) :
    YF K B g L (tLc2 wi gt tt wi1 gt1 tt1 te vs vs1) (· = (xs.filter c).flatMap fun x => ((zs x).filter (c1 x)).map (f x)) := fun s H a Q k =>
  hi s H a _ fun J S H1 e1 j1 w q D hD => by
    have hDM : D ∉ B.W.M := fun z => B.W.jm j1 D z hD
    have h0 : B.H0 D = none := (a.step e1 j1).hd.h0 hD
    refine lc_loop (K := K) (B := B) (g := g) (L := L) (R := fun x ys => ys = ((zs x).filter (c1 x)).map (f x)) (n := fun x => (zs x).length) (ys0 := [])
      (bd := fun s2 H3 Nx => wi1 s2 H3 fun J1 H4 => lcGo J1 gt1 tt1 (fun s3 H6 Nx1 => te s3 H6 fun y H7 => ∃ acc, H7 D = some (.lst acc) ∧ acc.length < sizeLine ∧ Nx1 (upd H7 D (.lst (acc ++ [y])))) s2 vs1 Nx H4)
      w hDM h0 (fun x ys _ e => by rw [e, List.length_map]; exact filter_len _ _) (by simpa using hz) (hg D) hu (ht D) (fun x ys s2 H3 Nx hx hc hb a3 m3 nx => ?_) (init_mk a e1 j1 hD) (init_S a e1 j1 hD w q) (fun yss H' m e j p => ?_)
    · refine hi1 D x hx hc s2 H3 a3 _ fun J1 S1 H4 e4 j4 w1 q1 => ?_
      have m4 := m3.step hDM e4 j4
      have a4 := a3.step (B := B.add D) e4 j4
      have S4 : S1 (cut (D :: B.W.M) H4) (vw (B.add D) L H4) := w1.mono (cut_sub fun b hb => (List.mem_cons.mp hb).elim (fun z => by rw [z]; exact List.mem_append_right _ List.mem_cons_self) fun z => List.mem_append_right _ (a4.hd.ok.sub b z)) (Same.refl _) q1
      refine lc_loop (K := K) (B := B) (g := setg (wipeg g vs) (us x)) (L := L) (R := fun z ws => ∃ y, ws = [y] ∧ y = f x z) (n := fun _ => 1) (ys0 := ys) (bd := fun s3 H6 Nx1 => te s3 H6 fun y H7 => ∃ acc, H7 D = some (.lst acc) ∧ acc.length < sizeLine ∧ Nx1 (upd H7 D (.lst (acc ++ [y]))))
        w1 hDM h0 (fun z ws _ ⟨y, e, _⟩ => by rw [e]; exact Nat.le_refl 1) (by rw [sum_ones]; exact hb) (fun z hz => hg1 D x z hx hz) (fun z hz => hu1 x z hx hz) (fun z hz => ht1 D x z hx hc hz) (fun z ys' s3 H6 Nx1 hz hc1 hb1 a6 m6 nx1 => ?_) (m4.slots a4.sg) S4 (fun yss H' m e j p => ?_)
      · refine he D x z hx hc hz hc1 s3 H6 a6 _ fun v H7 e7 j7 p7 => ?_
        obtain ⟨acc, l1, l2, m8⟩ := (m6.step hDM e7 j7).push hDM h0 p7
        exact ⟨acc, l1, by omega, nx1 [f x z] _ m8 (e7.cons.trans Le.poke) (B.W.jd (fun b hb => upd_ne fun z => hDM (by rw [← z]; exact hb)) j7) ⟨_, rfl, rfl⟩⟩
      · exact nx yss.flatten H' (m.slots (m4.at_.sg.mono (vw_cons m4.at_.hd e))) (e4.cons.trans e) j (pd_map (pd_ones p))
    · obtain ⟨acc, l1, l2⟩ := m.lst
      refine k D acc yss.flatten H' (none_back e1 j1 hD) l1 m.at_ (fun b o hb h => ?_) l2 (pd_flat p)
      have hbD : b ≠ D := fun z => by rw [z, none_back e1 j1 hD] at h; cases h
      exact e b o (fun z => (List.mem_cons.mp z).elim hbD hb) (by rw [upd_ne hbD]; exact e1 b o hb h)
end
end G
set_option Elab.async false
set_option linter.all false
set_option maxRecDepth 100000
set_option maxHeartbeats 4000000
/-! The rules over data, part f: calls of defs, statements. -/
namespace G
open PySem PySem.Spec PyProof.Rows L2 PySem.W
/-- a def's promise: arguments told by ss, the answer by post; others' objects (W) stay as J says, all else is kept -/
def spG {ι : Type} (P : Wd → ι → Prop) (ss : ι → List Sl) (post : ι → Sl) : Sp := fun vs H Q _ => ∃ (W : Wd) (A : List Addr) (i : ι), Ok W A H ∧ P W i ∧ Paired (fun v (t : Sl) => t.p v (cut A H)) vs (ss i) ∧
  ∀ v H', Le W.M H H' → Ok W A H' → (post i).p v (cut A H') → Q v H'
def sp1 {a : Type} (P : Wd → a → Prop) (s1 : a → Sl) (post : a → Sl) : Sp := spG P (fun i => [s1 i]) post
def sp2 {a b : Type} (P : Wd → a → b → Prop) (s1 : a → Sl) (s2 : b → Sl) (post : a → b → Sl) : Sp := spG (fun W (i : a × b) => P W i.1 i.2) (fun i => [s1 i.1, s2 i.2]) fun i => post i.1 i.2
def sp3 {a b c : Type} (P : Wd → a → b → c → Prop) (s1 : a → Sl) (s2 : b → Sl) (s3 : c → Sl) (post : a → b → c → Sl) : Sp := spG (fun W (i : a × b × c) => P W i.1 i.2.1 i.2.2) (fun i => [s1 i.1, s2 i.2.1, s3 i.2.2]) fun i => post i.1 i.2.1 i.2.2
def sp4 {a b c d : Type} (P : Wd → a → b → c → d → Prop) (s1 : a → Sl) (s2 : b → Sl) (s3 : c → Sl) (s4 : d → Sl) (post : a → b → c → d → Sl) : Sp :=
  spG (fun W (i : a × b × c × d) => P W i.1 i.2.1 i.2.2.1 i.2.2.2) (fun i => [s1 i.1, s2 i.2.1, s3 i.2.2.1, s4 i.2.2.2]) fun i => post i.1 i.2.1 i.2.2.1 i.2.2.2
def sp5 {a b c d e : Type} (P : Wd → a → b → c → d → e → Prop) (s1 : a → Sl) (s2 : b → Sl) (s3 : c → Sl) (s4 : d → Sl) (s5 : e → Sl) (post : a → b → c → d → e → Sl) : Sp :=
  spG (fun W (i : a × b × c × d × e) => P W i.1 i.2.1 i.2.2.1 i.2.2.2.1 i.2.2.2.2) (fun i => [s1 i.1, s2 i.2.1, s3 i.2.2.1, s4 i.2.2.2.1, s5 i.2.2.2.2]) fun i => post i.1 i.2.1 i.2.2.1 i.2.2.2.1 i.2.2.2.2
def Bs.x (B : Bs) (X : List (V × Sl)) : Bs := ⟨B.W, B.A, B.H0, X⟩
section
variable {K : PySem.W.Frag} {B : Bs} {g : Slots} {L : Ls} {te t1 t2 t3 t4 : TE} {tt tu : TT} {ta : TA} {t u w : Sl} {O O1 O2 O3 O4 : Oc} {D : Ends} {rest ts tb : TS} {E : XK}
variable {α β γ : Type} {_ : DecidableEq α} {_ : Datum α} {_ : DecidableEq β} {_ : Datum β} {_ : DecidableEq γ} {_ : Datum γ}
/-! ### calls -/
theorem y_call {ι : Type} {P : Wd → ι → Prop} {ss : ι → List Sl} {post : ι → Sl} (i : ι) (h : YA B g L ta (ss i)) (hp : P B.W i) : Y B g L (tCall (spG P ss post) [] E ta) (post i) := fun s H a Q k => h s H a _ fun vs H1 e j p => by
  have a1 := a.hd.step e j
  refine ⟨B.W, L.map (·.1) ++ B.A, i, a1.full, hp, by rw [List.append_nil]; exact p, fun v H' e2 o2 q => k v H' (e.trans e2) o2.j q⟩
theorem y_call1 {a : Type} {P : Wd → a → Prop} {s1 : a → Sl} {post : a → Sl} {x : a} (h : YA B g L ta [s1 x]) (hp : P B.W x) : Y B g L (tCall (sp1 P s1 post) [] E ta) (post x) := y_call (ss := fun i => [s1 i]) x h hp
theorem y_call2 {a b : Type} {P : Wd → a → b → Prop} {s1 : a → Sl} {s2 : b → Sl} {post : a → b → Sl} {x : a} {y : b} (h : YA B g L ta [s1 x, s2 y]) (hp : P B.W x y) : Y B g L (tCall (sp2 P s1 s2 post) [] E ta) (post x y) := y_call (P := fun W (i : a × b) => P W i.1 i.2) (ss := fun i => [s1 i.1, s2 i.2]) (post := fun i => post i.1 i.2) (x, y) h hp
theorem y_call3 {a b c : Type} {P : Wd → a → b → c → Prop} {s1 : a → Sl} {s2 : b → Sl} {s3 : c → Sl} {post : a → b → c → Sl} {x : a} {y : b} {z : c} (h : YA B g L ta [s1 x, s2 y, s3 z]) (hp : P B.W x y z) : Y B g L (tCall (sp3 P s1 s2 s3 post) [] E ta) (post x y z) :=
  y_call (P := fun W (i : a × b × c) => P W i.1 i.2.1 i.2.2) (ss := fun i => [s1 i.1, s2 i.2.1, s3 i.2.2]) (post := fun i => post i.1 i.2.1 i.2.2) (x, y, z) h hp
theorem y_call4 {a b c d : Type} {P : Wd → a → b → c → d → Prop} {s1 : a → Sl} {s2 : b → Sl} {s3 : c → Sl} {s4 : d → Sl} {post : a → b → c → d → Sl} {x : a} {y : b} {z : c} {r : d} (h : YA B g L ta [s1 x, s2 y, s3 z, s4 r]) (hp : P B.W x y z r) : Y B g L (tCall (sp4 P s1 s2 s3 s4 post) [] E ta) (post x y z r) :=
  y_call (P := fun W (i : a × b × c × d) => P W i.1 i.2.1 i.2.2.1 i.2.2.2) (ss := fun i => [s1 i.1, s2 i.2.1, s3 i.2.2.1, s4 i.2.2.2]) (post := fun i => post i.1 i.2.1 i.2.2.1 i.2.2.2) (x, y, z, r) h hp
theorem y_call5 {a b c d e : Type} {P : Wd → a → b → c → d → e → Prop} {s1 : a → Sl} {s2 : b → Sl} {s3 : c → Sl} {s4 : d → Sl} {s5 : e → Sl} {post : a → b → c → d → e → Sl} {x : a} {y : b} {z : c} {r : d} {q : e} (h : YA B g L ta [s1 x, s2 y, s3 z, s4 r, s5 q]) (hp : P B.W x y z r q) : Y B g L (tCall (sp5 P s1 s2 s3 s4 s5 post) [] E ta) (post x y z r q) :=
  y_call (P := fun W (i : a × b × c × d × e) => P W i.1 i.2.1 i.2.2.1 i.2.2.2.1 i.2.2.2.2) (ss := fun i => [s1 i.1, s2 i.2.1, s3 i.2.2.1, s4 i.2.2.2.1, s5 i.2.2.2.2]) (post := fun i => post i.1 i.2.1 i.2.2.1 i.2.2.2.1 i.2.2.2.2) (x, y, z, r, q) h hp
theorem spG_len {ι : Type} {P : Wd → ι → Prop} {ss : ι → List Sl} {post : ι → Sl} {n : Nat} (hn : ∀ i, (ss i).length = n) : ∀ vs H Q E, spG P ss post vs H Q E → vs.length = n := fun vs H Q E h => by
  obtain ⟨W, A, i, _, _, p, _⟩ := h
  rw [Paired.length p, hn i]
/-- at the entry -/
def slots0 (ss : List Sl) (n : Nat) : Slots := ss.map some ++ List.replicate (n - ss.length) none
theorem at_start {W : Wd} {A : List Addr} {H : Hp} {N : List Str} {vs : List V} {ss : List Sl} (ok : Ok W A H) (p : Paired (fun v (t : Sl) => t.p v (cut A H)) vs ss) (hn : ss.length ≤ N.length) : At ⟨W, A, H, []⟩ (slots0 ss N.length) [] (start N vs) H := by
  have hl := Paired.length p
  refine ⟨⟨ok, Le.refl _ _, fun q hq => absurd hq List.not_mem_nil, List.nodup_nil, fun q hq => absurd hq List.not_mem_nil, fun q hq => absurd hq List.not_mem_nil⟩, ?_, fun i t q => ?_⟩
  · simp [slots0, L2.start]; omega
  · unfold slots0 at q
    by_cases hi : i < ss.length
    · rw [List.getElem?_append_left (by rw [List.length_map]; exact hi), List.getElem?_map] at q
      cases r : ss[i]? with
      | none => rw [r] at q; cases q
      | some t' =>
        rw [r] at q
        cases q
        have go : ∀ {vs : List V} {ss : List Sl} {i : Nat}, Paired (fun v (t : Sl) => t.p v (cut A H)) vs ss → ss[i]? = some t → ∃ v, vs[i]? = some v ∧ t.p v (cut A H) := by
          intro vs ss i p
          induction p generalizing i with
          | nil => intro h; simp at h
          | cons r' p ih =>
            intro h
            cases i with
            | zero => simp at h; subst h; exact ⟨_, rfl, r'⟩
            | succ i => simpa using ih (by simpa using h)
        obtain ⟨v, e1, e2⟩ := go p r
        refine ⟨v, ?_, e2⟩
        have hv : i < vs.length := by rw [hl]; exact hi
        unfold L2.start
        rw [List.getElem?_append_left (by rw [List.length_map]; exact hv), List.getElem?_map, e1]; rfl
    · rw [List.getElem?_append_right (by rw [List.length_map]; omega), List.getElem?_replicate] at q
      split at q <;> simp at q
theorem rt_of {W : Wd} {A : List Addr} {H : Hp} {X : List (V × Sl)} {Q : VK} (k : ∀ v H', Le W.M H H' → Ok W A H' → t.p v (cut A H') → Q v H') : Rt ⟨W, A, H, X⟩ t Q := fun v H' e o p => k v H' e o p
/-! ### statements -/
theorem ys_next (h : ∀ s H, At B g L s H → D.nx s H) : YS B g L tNext D := h
theorem ys_end (h : Rt B (Is K ()) D.rt) (hn : ∀ s H, D.rt .non H → D.nx s H) : YS B g L tNext D := fun s H a => hn s H (h _ H a.hd.le a.hd.ok rp_unit)
theorem hd_cut {H : Hp} : Same (vw B L H) (cut B.A H) := cut_sub fun a ha => List.mem_append_right _ ha
theorem ys_ret (h : Y B g L te t) (hr : Rt B t D.rt) : YS B g L (tSeq (tRet te) rest) D := fun s H a => h s H a _ fun v H' e j p => hr v H' (a.hd.le.trans e) (a.hd.step e j).ok (t.mono hd_cut p)
theorem ys_retN (hr : Rt B (Is K ()) D.rt) : YS B g L (tSeq tRetN rest) D := fun s H a => hr _ H a.hd.le a.hd.ok rp_unit
theorem ys_set {i : Nat} (h : YO B g L te O) (k : ∀ u L1, O L u L1 → YS B (g.set i (some u)) L1 rest D) : YS B g L (tSeq (tAsg te (gName i)) rest) D := fun s H a => h s H a _ fun v H' t L1 o a1 e gw p => k t L1 o _ H' ⟨a1.hd, a1.sg.set i p⟩
theorem ys_setD {i : Nat} (h : Y B g L te t) (k : YS B (g.set i (some t)) L rest D) : YS B g L (tSeq (tAsg te (gName i)) rest) D := ys_set h.o fun u L1 o => by
  obtain ⟨rfl, rfl⟩ := o
  exact k
theorem ys_setE {i : Nat} {A : α → Prop} (h : Y B g L te (Ex K A)) (k : ∀ x, A x → YS B (g.set i (some (Is K x))) L rest D) : YS B g L (tSeq (tAsg te (gName i)) rest) D := ys_set h.oe fun u L1 o => by
  obtain ⟨x, hx, rfl, rfl⟩ := o
  exact k x hx
theorem ys_setN {i : Nat} {R : List α → Prop} (h : YF K B g L te R) (k : ∀ p xs, R xs → YS B (g.set i (some (Vl (.ref p)))) ((p, LoL K xs) :: L) rest D) : YS B g L (tSeq (tAsg te (gName i)) rest) D := ys_set h.o fun u L1 o => by
  obtain ⟨p, xs, hx, rfl, rfl⟩ := o
  exact k p xs hx
theorem ys_asg {gt : TG} {us : List (Nat × Sl)} (h : Y B g L te t) (hg : YG B L gt t us) (k : YS B (setg g us) L rest D) : YS B g L (tSeq (tAsg te gt) rest) D := fun s H a => h s H a _ fun v H' e j p =>
  hg s H' v (a.step e j).hd p _ fun ws q => k _ H' ⟨(a.step e j).hd, Sg.sets (a.step e j).sg q⟩
/-- two values on the way -/
theorem yo2 {s : L2.St} {H : Hp} (a : At B g L s H) (h1 : YO B g L t1 O1) (h2 : ∀ u L1, O1 L u L1 → YO B g L1 t2 O2) {P : V → V → Hp → Prop}
    (k : ∀ v x H' t u L1 L2, O1 L t L1 → O2 L1 u L2 → At B g L2 s H' → Le B.W.M H H' → Gw L L2 H → t.p v (vw B L2 H') → u.p x (vw B L2 H') → P v x H') : t1 s H fun v H1 => t2 s H1 fun x H2 => P v x H2 :=
  h1 s H a _ fun v H1 t L1 o1 a1 e1 g1 p1 => h2 t L1 o1 s H1 a1 _ fun x H2 u L2 o2 a2 e2 g2 p2 => k v x H2 t u L1 L2 o1 o2 a2 (e1.trans e2) (fun q hq => by
    rcases g2 q hq with z | z
    · exact g1 q z
    · refine .inr ?_
      cases r : H q.1 with
      | none => rfl
      | some o =>
        by_cases hm : q.1 ∈ B.W.M
        · exact absurd z (B.W.jm a1.hd.ok.j _ hm)
        · rw [e1 _ o hm r] at z; cases z) (t.mono (vw_grow a1.hd e2 g2) p1) p2
theorem ys_par {i j : Nat} (h1 : YO B g L t1 O1) (h2 : ∀ u L1, O1 L u L1 → YO B g L1 t2 O2) (k : ∀ t L1 u L2, O1 L t L1 → O2 L1 u L2 → YS B ((g.set i (some t)).set j (some u)) L2 rest D) :
    YS B g L (tSeq (tPar i j (tCons t1 (tCons t2 tNil))) rest) D := fun s H a => by
  show t1 s H fun v H1 => t2 s H1 fun x H2 => ∃ v' w, [v, x] = [v', w] ∧ rest D ((s.set i (some v')).set j (some w)) H2
  exact yo2 a h1 h2 fun v x H' t u L1 L2 o1 o2 a2 _ _ p1 p2 => ⟨v, x, rfl, k t L1 u L2 o1 o2 _ H' ⟨a2.hd, (a2.sg.set i p1).set j p2⟩⟩
theorem yo3 {s : L2.St} {H : Hp} (a : At B g L s H) (h1 : YO B g L t1 O1) (h2 : ∀ u L1, O1 L u L1 → YO B g L1 t2 O2) (h3 : ∀ t L1 u L2, O1 L t L1 → O2 L1 u L2 → YO B g L2 t3 O3) {P : V → V → V → Hp → Prop}
    (k : ∀ v x y H' t u w L1 L2 L3, O1 L t L1 → O2 L1 u L2 → O3 L2 w L3 → At B g L3 s H' → Le B.W.M H H' → Gw L L3 H → t.p v (vw B L3 H') → u.p x (vw B L3 H') → w.p y (vw B L3 H') → P v x y H') :
    t1 s H fun v H1 => t2 s H1 fun x H2 => t3 s H2 fun y H3 => P v x y H3 :=
  yo2 a h1 h2 fun v x H2 t u L1 L2 o1 o2 a2 e2 g2 p1 p2 => h3 t L1 u L2 o1 o2 s H2 a2 _ fun y H3 w L3 o3 a3 e3 g3 p3 => k v x y H3 t u w L1 L2 L3 o1 o2 o3 a3 (e2.trans e3) (fun q hq => by
    rcases g3 q hq with z | z
    · exact g2 q z
    · refine .inr ?_
      cases r : H q.1 with
      | none => rfl
      | some o =>
        by_cases hm : q.1 ∈ B.W.M
        · exact absurd z (B.W.jm a2.hd.ok.j _ hm)
        · rw [e2 _ o hm r] at z; cases z) (t.mono (vw_grow a2.hd e3 g3) p1) (u.mono (vw_grow a2.hd e3 g3) p2) p3
theorem ys_par3 {i j l : Nat} (h1 : YO B g L t1 O1) (h2 : ∀ u L1, O1 L u L1 → YO B g L1 t2 O2) (h3 : ∀ t L1 u L2, O1 L t L1 → O2 L1 u L2 → YO B g L2 t3 O3)
    (k : ∀ t L1 u L2 w L3, O1 L t L1 → O2 L1 u L2 → O3 L2 w L3 → YS B (((g.set i (some t)).set j (some u)).set l (some w)) L3 rest D) : YS B g L (tSeq (tPar3 i j l (tCons t1 (tCons t2 (tCons t3 tNil)))) rest) D := fun s H a => by
  show t1 s H fun v H1 => t2 s H1 fun x H2 => t3 s H2 fun y H3 => ∃ u v' w, [v, x, y] = [u, v', w] ∧ rest D (((s.set i (some u)).set j (some v')).set l (some w)) H3
  exact yo3 a h1 h2 h3 fun v x y H' t u w L1 L2 L3 o1 o2 o3 a3 _ _ p1 p2 p3 => ⟨v, x, y, rfl, k t L1 u L2 w L3 o1 o2 o3 _ H' ⟨a3.hd, ((a3.sg.set i p1).set j p2).set l p3⟩⟩
/-- .. by a tuple that is made -/
theorem ys_tup2 {i j : Nat} (h1 : YO B g L t1 O1) (h2 : ∀ u L1, O1 L u L1 → YO B g L1 t2 O2) (k : ∀ t L1 u L2, O1 L t L1 → O2 L1 u L2 → YS B ((g.set i (some t)).set j (some u)) L2 rest D) :
    YS B g L (tSeq (tAsg (tTup (tCons t1 (tCons t2 tNil))) (gTup K 2 (gCons (gName i) (gCons (gName j) gNil)))) rest) D := fun s H a => by
  refine yo2 a h1 h2 fun v x H' t u L1 L2 o1 o2 a2 _ _ p1 p2 => ?_
  refine ⟨by show 2 ≤ sizeLine; decide, fun p hp => ⟨p, [v, x], rfl, SqT.of upd_same, rfl, v, [x], rfl, x, [], rfl, rfl, ?_⟩⟩
  exact k t L1 u L2 o1 o2 _ _ ⟨(a2.laid hp).hd, ((a2.laid hp).sg.set i (t.mono (a2.hd.grow hp) p1)).set j (u.mono (a2.hd.grow hp) p2)⟩
theorem ys_tup3 {i j l : Nat} (h1 : YO B g L t1 O1) (h2 : ∀ u L1, O1 L u L1 → YO B g L1 t2 O2) (h3 : ∀ t L1 u L2, O1 L t L1 → O2 L1 u L2 → YO B g L2 t3 O3)
    (k : ∀ t L1 u L2 w L3, O1 L t L1 → O2 L1 u L2 → O3 L2 w L3 → YS B (((g.set i (some t)).set j (some u)).set l (some w)) L3 rest D) :
    YS B g L (tSeq (tAsg (tTup (tCons t1 (tCons t2 (tCons t3 tNil)))) (gTup K 3 (gCons (gName i) (gCons (gName j) (gCons (gName l) gNil))))) rest) D := fun s H a => by
  refine yo3 a h1 h2 h3 fun v x y H' t u w L1 L2 L3 o1 o2 o3 a3 _ _ p1 p2 p3 => ?_
  refine ⟨by show 3 ≤ sizeLine; decide, fun p hp => ⟨p, [v, x, y], rfl, SqT.of upd_same, rfl, v, [x, y], rfl, x, [y], rfl, y, [], rfl, rfl, ?_⟩⟩
  exact k t L1 u L2 w L3 o1 o2 o3 _ _ ⟨(a3.laid hp).hd, (((a3.laid hp).sg.set i (t.mono (a3.hd.grow hp) p1)).set j (u.mono (a3.hd.grow hp) p2)).set l (w.mono (a3.hd.grow hp) p3)⟩
theorem ys_tup4 {i j l m : Nat} (h1 : YO B g L t1 O1) (h2 : ∀ u L1, O1 L u L1 → YO B g L1 t2 O2) (h3 : ∀ t L1 u L2, O1 L t L1 → O2 L1 u L2 → YO B g L2 t3 O3)
    (h4 : ∀ t L1 u L2 w L3, O1 L t L1 → O2 L1 u L2 → O3 L2 w L3 → YO B g L3 t4 O4)
    (k : ∀ t L1 u L2 w L3 r L4, O1 L t L1 → O2 L1 u L2 → O3 L2 w L3 → O4 L3 r L4 → YS B ((((g.set i (some t)).set j (some u)).set l (some w)).set m (some r)) L4 rest D) :
    YS B g L (tSeq (tAsg (tTup (tCons t1 (tCons t2 (tCons t3 (tCons t4 tNil))))) (gTup K 4 (gCons (gName i) (gCons (gName j) (gCons (gName l) (gCons (gName m) gNil)))))) rest) D := fun s H a => by
  refine yo3 a h1 h2 h3 fun v x y H' t u w L1 L2 L3 o1 o2 o3 a3 e3 g3 p1 p2 p3 => ?_
  refine h4 t L1 u L2 w L3 o1 o2 o3 s H' a3 _ fun z H4 r L4 o4 a4 e4 g4 p4 => ?_
  have q1 := t.mono (vw_grow a3.hd e4 g4) p1
  have q2 := u.mono (vw_grow a3.hd e4 g4) p2
  have q3 := w.mono (vw_grow a3.hd e4 g4) p3
  refine ⟨by show 4 ≤ sizeLine; decide, fun p hp => ⟨p, [v, x, y, z], rfl, SqT.of upd_same, rfl, v, [x, y, z], rfl, x, [y, z], rfl, y, [z], rfl, z, [], rfl, rfl, ?_⟩⟩
  exact k t L1 u L2 w L3 r L4 o1 o2 o3 o4 _ _ ⟨(a4.laid hp).hd, ((((a4.laid hp).sg.set i (t.mono (a4.hd.grow hp) q1)).set j (u.mono (a4.hd.grow hp) q2)).set l (w.mono (a4.hd.grow hp) q3)).set m (r.mono (a4.hd.grow hp) p4)⟩
theorem ys_expr (h : Y B g L te t) (k : YS B g L rest D) : YS B g L (tSeq (tDrop te) rest) D := fun s H a => h s H a _ fun v H' e j p => k s H' (a.step e j)
theorem ys_ifP {C : Bool → Prop} (h : YP B g L tt C) (h1 : C true → YS B g L ts { D with nx := rest D }) (h2 : C false → YS B g L tb { D with nx := rest D }) : YS B g L (tSeq (tIfS tt ts tb) rest) D := fun s H a => h s H a _ fun c H' e j p => by
  cases c with
  | true => exact h1 p s H' (a.step e j)
  | false => exact h2 p s H' (a.step e j)
theorem ys_if {c : Bool} (h : YT B g L tt c) (h1 : c = true → YS B g L ts { D with nx := rest D }) (h2 : c = false → YS B g L tb { D with nx := rest D }) : YS B g L (tSeq (tIfS tt ts tb) rest) D := ys_ifP h (fun e => h1 e.symm) fun e => h2 e.symm
/-- behind a branch -/
theorem ys_then (h : YS B g L rest D) : YS B g L tNext { D with nx := rest D } := h
theorem ys_weak {g' : Slots} (h : YS B g' L ts D) (e : Wk1 g g') : YS B g L ts D := fun s H a => h s H (a.weak e)
theorem ys_rel {L' : Ls} (h : YS B g L' ts D) (e : L'.Sublist L) : YS B g L ts D := fun s H a => h s H (a.rel e)
/-- a changing list becomes data -/
theorem At.free {s : L2.St} {H : Hp} {L1 L2 : Ls} {p : Addr} {i : Nat} {xs : List α} (a : At B g (L1 ++ (p, LoL K xs) :: L2) s H) (h : g[i]? = some (some (Vl (.ref p)))) : At B (g.set i (some (Is K xs))) (L1 ++ L2) s H := by
  have hm : (p, LoL K xs) ∈ L1 ++ (p, LoL K xs) :: L2 := List.mem_append_right _ List.mem_cons_self
  have sub : (L1 ++ L2).Sublist (L1 ++ (p, LoL K xs) :: L2) := List.Sublist.append_left (List.sublist_cons_self _ _) _
  have a1 := a.rel sub
  obtain ⟨o, e1, vs, rfl, e2⟩ := a.hd.lo _ hm
  obtain ⟨v, f1, f2⟩ := a.sg.at_ i _ h
  have ev : v = .ref p := f2
  subst ev
  have hp : p ∉ (L1 ++ L2).map (·.1) ++ B.A := fun z => by
    rcases List.mem_append.mp z with z | z
    · have n := a.hd.nd
      rw [List.map_append, List.map_cons] at n
      rw [List.map_append] at z
      have n2 := List.perm_middle.nodup_iff.mp n
      exact (List.nodup_cons.mp n2).1 z
    · exact (a.hd.new _ hm).2 z
  have st : Same (vw B (L1 ++ (p, LoL K xs) :: L2) H) (vw B (L1 ++ L2) H) := cut_sub fun b hb => by
    rcases List.mem_append.mp hb with z | z
    · exact List.mem_append_left _ ((sub.map _).subset z)
    · exact List.mem_append_right _ z
  refine ⟨a1.hd, ?_⟩
  have q := a1.sg.set (t := Is K xs) i (v := .ref p) (rp_lst (SqL.of (by show cut _ _ _ = _; rw [cut_out hp]; exact e1)) (e2.same st))
  have es : s.set i (some (.ref p)) = s := by
    refine List.ext_getElem? fun j => ?_
    by_cases hj : i = j
    · subst hj
      rw [List.getElem?_set_self (List.getElem?_eq_some_iff.mp f1).1, f1]
    · rw [List.getElem?_set_ne hj]
  rw [es] at q
  exact q
theorem ys_free {L1 L2 : Ls} {p : Addr} {i : Nat} {xs : List α} (h : g[i]? = some (some (Vl (.ref p)))) (k : YS B (g.set i (some (Is K xs))) (L1 ++ L2) ts D) : YS B g (L1 ++ (p, LoL K xs) :: L2) ts D := fun s H a => k s H (a.free h)
end
end G
set_option Elab.async false
set_option linter.all false
set_option maxRecDepth 100000
set_option maxHeartbeats 4000000
/-! The rules over data, part g: loops, changes of the own lists. -/
namespace G
open PySem PySem.Spec PyProof.Rows L2 PySem.W
section
variable {K : PySem.W.Frag} {B : Bs} {g : Slots} {L : Ls} {te t1 t2 t3 t4 : TE} {tt tu : TT} {ta : TA} {t u w : Sl} {D : Ends} {rest ts tb : TS} {wi : TI} {gt : TG}
variable {α β γ : Type} {_ : DecidableEq α} {_ : Datum α} {_ : DecidableEq β} {_ : Datum β}
theorem At.setX {s : L2.St} {H : Hp} {X : List (V × Sl)} (a : At B g L s H) (h : ∀ q, q ∈ X → q.2.p q.1 (vw B L H)) : At (B.x X) g L s H := ⟨⟨a.hd.ok, a.hd.le, a.hd.new, a.hd.nd, a.hd.lo, h⟩, a.sg⟩
theorem At.backX {s : L2.St} {H : Hp} {p : V × Sl} (a : At (B.x (p :: B.X)) g L s H) : At B g L s H := ⟨⟨a.hd.ok, a.hd.le, a.hd.new, a.hd.nd, a.hd.lo, fun q hq => a.hd.x q (List.mem_cons_of_mem _ hq)⟩, a.sg⟩
end
section
variable {B : Bs} {g : Slots} {L : Ls} {te t1 t2 t3 t4 : TE} {tt tu : TT} {ta : TA} {t u w : Sl} {D : Ends} {rest ts tb : TS} {wi : TI} {gt : TG}
variable {α : Type} [DecidableEq α] [Datum α]
/-- a for: I tells what holds ahead of the k-th turn; what follows a break is told for every B.x X -/
theorem ys_forB (K : PySem.W.Frag) {ι : Type} {xs : List α} {us : ι → α → List (Nat × Sl)} (I : Nat → ι → Prop) (gf : ι → Slots) (Lf : ι → Ls) (hi : YI K B g L wi xs) (h0 : ∃ d, I 0 d ∧ Wk1 g (gf d) ∧ (Lf d).Sublist L)
    (hg : ∀ X d x, x ∈ xs → YG (B.x X) (Lf d) gt (Is K x) (us d x))
    (hs : ∀ X i d x, xs[i]? = some x → I i d → YS (B.x X) (setg (gf d) (us d x)) (Lf d) tb
      { D with nx := fun s H => ∃ d', I (i + 1) d' ∧ At (B.x X) (gf d') (Lf d') s H, ct := fun s H => ∃ d', I (i + 1) d' ∧ At (B.x X) (gf d') (Lf d') s H, bk := rest D })
    (hd : ∀ d, I xs.length d → YS B (gf d) (Lf d) rest D) : YS B g L (tSeq (tFor wi gt tb) rest) D := fun s H a =>
  hi s H a _ fun J S H1 e1 j1 wk q => by
    have a1 := a.step e1 j1
    let p : V × Sl := (.non, ⟨fun _ N => S N N, fun e h => wk.mono e e h⟩)
    have ax : At (B.x (p :: B.X)) g L s H1 := a1.setX fun r hr => by
      rcases List.mem_cons.mp hr with z | z
      · rw [z]; exact q
      · exact a1.hd.x r z
    obtain ⟨d0, i0, w0, l0⟩ := h0
    refine ⟨fun i m s H => m = xs.length - i ∧ i ≤ xs.length ∧ ∃ d, I i d ∧ At (B.x (p :: B.X)) (gf d) (Lf d) s H, ⟨xs.length, by simp, Nat.zero_le _, d0, i0, (ax.rel l0).weak w0⟩, ?_⟩
    rintro i m s2 H2 ⟨rfl, hle, d, id, a2⟩
    have hS : S (vw (B.x (p :: B.X)) (Lf d) H2) (vw (B.x (p :: B.X)) (Lf d) H2) := a2.hd.x p List.mem_cons_self
    have hS2 : S H2 (vw (B.x (p :: B.X)) (Lf d) H2) := wk.mono cut_same (Same.refl _) hS
    by_cases hlt : i < xs.length
    · refine .inr ⟨wk.go i H2 _ hlt hS2, fun s H => ∃ d', I (i + 1) d' ∧ At (B.x (p :: B.X)) (gf d') (Lf d') s H, fun s' H' r => ⟨xs.length - (i + 1), by omega, rfl, hlt, r⟩, fun v H' y => ?_⟩
      have hx : xs[i]? = some xs[i] := List.getElem?_eq_getElem hlt
      have hm : xs[i] ∈ xs := List.getElem_mem hlt
      obtain ⟨kp, r⟩ := wk.yld _ i H2 v H' _ a2.hd.full.av hS2 hx y
      have e3 : Le B.W.M H2 H' := fun b o _ q => by rw [kp b (by rw [q]; exact fun z => by cases z)]; exact q
      have j3 : B.W.J H' := B.W.jd (fun b hb => kp b (B.W.jm a2.hd.ok.j b hb)) a2.hd.ok.j
      have a3 := a2.step (B := B.x (p :: B.X)) e3 j3
      exact hg _ d _ hm s2 H' v a3.hd r _ fun ws pw => hs _ i d _ hx id _ _ ⟨a3.hd, Sg.sets a3.sg pw⟩
    · have e : i = xs.length := by omega
      subst e
      exact .inl ⟨wk.stop H2 _ hS2, hd d id _ _ a2.backX⟩
end
section
variable {K : PySem.W.Frag} {B : Bs} {g : Slots} {L : Ls} {te t1 t2 t3 t4 : TE} {tt tu : TT} {ta : TA} {t u w : Sl} {D : Ends} {rest ts tb : TS} {wi : TI} {gt : TG}
variable {α β γ : Type} {_ : DecidableEq α} {_ : Datum α} {_ : DecidableEq β} {_ : Datum β}
/-- the same with the source's reading in the loop's own way (range(n) with n told by a predicate) -/
theorem ys_while {ι : Type} {cb : ι → Bool} (I : ι → Prop) (μ : ι → Nat) (gf : ι → Slots) (Lf : ι → Ls) (h0 : ∃ d, I d ∧ Wk1 g (gf d) ∧ (Lf d).Sublist L) (hc : ∀ d, I d → YT B (gf d) (Lf d) tt (cb d))
    (hs : ∀ d, I d → cb d = true → YS B (gf d) (Lf d) tb { D with nx := fun s H => ∃ d', I d' ∧ μ d' < μ d ∧ At B (gf d') (Lf d') s H, ct := fun s H => ∃ d', I d' ∧ μ d' < μ d ∧ At B (gf d') (Lf d') s H, bk := rest D })
    (hd : ∀ d, I d → cb d = false → YS B (gf d) (Lf d) rest D) : YS B g L (tSeq (tWhile tt tb) rest) D := fun s H a => by
  obtain ⟨d0, i0, w0, l0⟩ := h0
  refine ⟨fun m s H => ∃ d, m = μ d ∧ I d ∧ At B (gf d) (Lf d) s H, ⟨_, d0, rfl, i0, (a.rel l0).weak w0⟩, ?_⟩
  rintro m s2 H2 ⟨d, rfl, id, a2⟩
  refine hc d id s2 H2 a2 _ fun c H3 e j p => ?_
  subst p
  have a3 := a2.step e j
  cases hcb : cb d with
  | true =>
    rw [if_pos rfl]
    exact ⟨fun s H => ∃ d', I d' ∧ μ d' < μ d ∧ At B (gf d') (Lf d') s H, fun s' H' ⟨d', i', l', a'⟩ => ⟨μ d', l', d', rfl, i', a'⟩, hs d id hcb _ _ a3⟩
  | false =>
    rw [if_neg Bool.false_ne_true]
    exact hd d id hcb _ _ a3
theorem ys_break (h : ∀ s H, At B g L s H → D.bk s H) : YS B g L (tSeq tBreak rest) D := h
theorem ys_cont (h : ∀ s H, At B g L s H → D.ct s H) : YS B g L (tSeq tCont rest) D := h
theorem ys_never (h : False) : YS B g L (tSeq tNever rest) D := h.elim
/-! ### changes -/
theorem At.app {s : L2.St} {H : Hp} {j : Nat} {p : Addr} {xs ys : List α} {vs ws : List V} (a : At B g L s H) (hl : L[j]? = some (p, LoL K xs)) (hv : H p = some (.lst vs)) (r : RpA K (vw B L H) ws ys) : At B g (L.set j (p, LoL K (xs ++ ys))) s (upd H p (.lst (vs ++ ws))) := by
  obtain ⟨o, e1, vs', rfl, e2⟩ := a.hd.lo _ (List.mem_of_getElem? hl)
  rw [hv] at e1
  cases e1
  exact a.put hl ⟨_, rfl, e2.append r⟩
theorem loc_at {s : L2.St} {H : Hp} {i j : Nat} {p : Addr} {xs : List α} (a : At B g L s H) (h : g[i]? = some (some (Vl (.ref p)))) (hl : L[j]? = some (p, LoL K xs)) : ∃ vs, s[i]? = some (some (.ref p)) ∧ H p = some (.lst vs) ∧ RpA K (vw B L H) vs xs ∧ p ∉ B.W.M := by
  obtain ⟨v, e1, e2⟩ := a.sg.at_ i _ h
  obtain ⟨o, e3, vs, rfl, e5⟩ := a.hd.lo _ (List.mem_of_getElem? hl)
  have ev : v = .ref p := e2
  subst ev
  exact ⟨vs, e1, e3, e5, a.hd.nm _ (List.mem_of_getElem? hl)⟩
/-- xs.append(e) -/
theorem ys_append {i j : Nat} {p : Addr} {xs : List α} {x : α} (h : g[i]? = some (some (Vl (.ref p)))) (hl : L[j]? = some (p, LoL K xs)) (he : Y B g L te (Is K x)) (hz : xs.length < sizeLine) (k : YS B g (L.set j (p, LoL K (xs ++ [x]))) rest D) :
    YS B g L (tSeq (tDrop (tBM K "list" rAppend (tVar i) (tCons te tNil))) rest) D := fun s H a => by
  obtain ⟨vs, e1, e2, e3, nm⟩ := loc_at a h hl
  refine ⟨.ref p, e1, Or.inl ⟨rfl, _, SqL.of e2⟩, he s H a _ fun v H1 e j1 r => ?_⟩
  have h1 : H1 p = some (.lst vs) := e _ _ nm e2
  exact ⟨p, vs, v, rfl, rfl, h1, by rw [e3.length]; exact hz, k _ _ ((a.step e j1).app hl h1 (.one r))⟩
theorem ys_appendE {i j : Nat} {p : Addr} {xs : List α} {A : α → Prop} (h : g[i]? = some (some (Vl (.ref p)))) (hl : L[j]? = some (p, LoL K xs)) (he : Y B g L te (Ex K A)) (hz : xs.length < sizeLine) (k : ∀ x, A x → YS B g (L.set j (p, LoL K (xs ++ [x]))) rest D) :
    YS B g L (tSeq (tDrop (tBM K "list" rAppend (tVar i) (tCons te tNil))) rest) D := fun s H a => by
  obtain ⟨vs, e1, e2, e3, nm⟩ := loc_at a h hl
  refine ⟨.ref p, e1, Or.inl ⟨rfl, _, SqL.of e2⟩, he s H a _ fun v H1 e j1 r => ?_⟩
  obtain ⟨x, hx, r⟩ := r
  have h1 : H1 p = some (.lst vs) := e _ _ nm e2
  exact ⟨p, vs, v, rfl, rfl, h1, by rw [e3.length]; exact hz, k x hx _ _ ((a.step e j1).app hl h1 (.one r))⟩
/-- xs.extend(e), e a list or a tuple -/
theorem ys_extend {i j : Nat} {p : Addr} {xs ys : List α} (h : g[i]? = some (some (Vl (.ref p)))) (hl : L[j]? = some (p, LoL K xs)) (he : YQ K B g L te ys) (hz : xs.length + ys.length ≤ sizeLine) (k : YS B g (L.set j (p, LoL K (xs ++ ys))) rest D) :
    YS B g L (tSeq (tDrop (tBM K "list" (rExtendG K) (tVar i) (tCons te tNil))) rest) D := fun s H a => by
  obtain ⟨vs, e1, e2, e3, nm⟩ := loc_at a h hl
  refine ⟨.ref p, e1, Or.inl ⟨rfl, _, SqL.of e2⟩, he s H a _ fun v H1 e j1 r => ?_⟩
  obtain ⟨b, ws, rfl, r1, r2⟩ := r
  have h1 : H1 p = some (.lst vs) := e _ _ nm e2
  exact ⟨p, b, vs, ws, rfl, rfl, h1, .inl (lw_same.seq r1), by rw [e3.length, r2.length]; exact hz, k _ _ ((a.step e j1).app hl h1 r2)⟩
theorem ys_extendU {i j : Nat} {p : Addr} {xs ys : List α} (h : g[i]? = some (some (Vl (.ref p)))) (hl : L[j]? = some (p, LoL K xs)) (he : Y B g L te (Is K (Tup.mk ys))) (hz : xs.length + ys.length ≤ sizeLine) (k : YS B g (L.set j (p, LoL K (xs ++ ys))) rest D) :
    YS B g L (tSeq (tDrop (tBM K "list" (rExtendG K) (tVar i) (tCons te tNil))) rest) D := fun s H a => by
  obtain ⟨vs, e1, e2, e3, nm⟩ := loc_at a h hl
  refine ⟨.ref p, e1, Or.inl ⟨rfl, _, SqL.of e2⟩, he s H a _ fun v H1 e j1 r => ?_⟩
  obtain ⟨b, ws, rfl, r1, r2⟩ := tup_rp r
  have h1 : H1 p = some (.lst vs) := e _ _ nm e2
  exact ⟨p, b, vs, ws, rfl, rfl, h1, .inr (sameT vw_same r1), by rw [e3.length, r2.length]; exact hz, k _ _ ((a.step e j1).app hl h1 r2)⟩
/-- xs.append(ys.pop(i)), i told by a predicate -/
theorem ys_appPop {i j i2 j2 : Nat} {p p2 : Addr} {xs ys : List α} {A : Int → Prop} (h : g[i]? = some (some (Vl (.ref p)))) (hl : L[j]? = some (p, LoL K xs)) (h2 : g[i2]? = some (some (Vl (.ref p2)))) (hl2 : L[j2]? = some (p2, LoL K ys)) (hj : j ≠ j2) (he : Y B g L te (Ex K A)) (hz : xs.length < sizeLine)
    (hA : ∀ n, A n → 0 ≤ n ∧ n < (ys.length : Int)) (hy : (ys.length : Int) < 2 ^ 63) (k : ∀ (n : Nat) y, A n → ys[n]? = some y → YS B g ((L.set j2 (p2, LoL K (ys.eraseIdx n))).set j (p, LoL K (xs ++ [y]))) rest D) :
    YS B g L (tSeq (tDrop (tBM K "list" rAppend (tVar i) (tCons (tBM K "list" rPopAt (tVar i2) (tCons te tNil)) tNil))) rest) D := fun s H a => by
  obtain ⟨vs, e1, e2, e3, nm⟩ := loc_at a h hl
  obtain ⟨ws, f1, f2, f3, nm2⟩ := loc_at a h2 hl2
  refine ⟨.ref p, e1, Or.inl ⟨rfl, _, SqL.of e2⟩, .ref p2, f1, Or.inl ⟨rfl, _, SqL.of f2⟩, he s H a _ fun v H1 e j1 r => ?_⟩
  obtain ⟨n, hn, r⟩ := r
  have a1 := a.step e j1
  obtain ⟨vs', e1', e2', e3', _⟩ := loc_at a1 h hl
  obtain ⟨ws', f1', f2', f3', _⟩ := loc_at a1 h2 hl2
  have h1 : H1 p = some (.lst vs) := e _ _ nm e2
  have h3 : H1 p2 = some (.lst ws) := e _ _ nm2 f2
  rw [h1] at e2'
  cases e2'
  rw [h3] at f2'
  cases f2'
  obtain ⟨b1, b2⟩ := hA n hn
  have en : ((n.toNat : Nat) : Int) = n := by omega
  have hlt : n.toNat < ys.length := by omega
  obtain ⟨u, hu, ru⟩ := f3'.at' (i := n.toNat) (List.getElem?_eq_getElem hlt)
  have hne : p ≠ p2 := fun z => by
    have n := a.hd.nd
    have q1 : (L.map (·.1))[j]? = some p := by rw [List.getElem?_map, hl]; rfl
    have q2 : (L.map (·.1))[j2]? = some p := by rw [List.getElem?_map, hl2, z]; rfl
    obtain ⟨b1, c1⟩ := List.getElem?_eq_some_iff.mp q1
    obtain ⟨b2, c2⟩ := List.getElem?_eq_some_iff.mp q2
    exact hj ((List.getElem_inj n).mp (c1.trans c2.symm))
  have hsi : seqIndex? n ws.length = some n.toNat := by
    rw [f3'.length]
    unfold seqIndex?
    simp only [show ¬ n < 0 by omega, ↓reduceIte]
    simp [hlt]
    omega
  have a2 : At B g (L.set j2 (p2, LoL K (ys.eraseIdx n.toNat))) s (upd H1 p2 (.lst (ws.eraseIdx n.toNat))) := a1.put hl2 ⟨_, rfl, f3'.eraseIdx _⟩
  refine ⟨p2, ws, n, n.toNat, u, rfl, by rw [int_rp r], h3, by omega, by omega, hsi, hu, p, vs, u, rfl, rfl, by rw [upd_ne hne]; exact h1, by rw [e3.length]; exact hz, ?_⟩
  have hl' : (L.set j2 (p2, LoL K (ys.eraseIdx n.toNat)))[j]? = some (p, LoL K xs) := by rw [List.getElem?_set_ne (Ne.symm hj)]; exact hl
  have ve : vw B L H1 = vw B (L.set j2 (p2, LoL K (ys.eraseIdx n.toNat))) (upd H1 p2 (.lst (ws.eraseIdx n.toNat))) := by
    have em : (L.set j2 (p2, LoL K (ys.eraseIdx n.toNat))).map (·.1) = L.map (·.1) := by
      rw [List.map_set]
      refine List.ext_getElem? fun m => ?_
      by_cases hm : j2 = m
      · subst hm
        have hi : j2 < L.length := (List.getElem?_eq_some_iff.mp hl2).1
        rw [List.getElem?_set_self (by rw [List.length_map]; exact hi), List.getElem?_map, hl2]; rfl
      · rw [List.getElem?_set_ne hm]
    show cut _ _ = cut ((L.set j2 (p2, LoL K (ys.eraseIdx n.toNat))).map (·.1) ++ B.A) _
    rw [em]
    funext b
    by_cases hb : b ∈ L.map (·.1) ++ B.A
    · rw [cut_in hb, cut_in hb]
    · rw [cut_out hb, cut_out hb, upd_ne fun z => hb (by rw [z]; exact List.mem_append_left _ (List.mem_map.mpr ⟨_, List.mem_of_getElem? hl2, rfl⟩))]
  have ru' : Rp K (vw B (L.set j2 (p2, LoL K (ys.eraseIdx n.toNat))) (upd H1 p2 (.lst (ws.eraseIdx n.toNat)))) u ys[n.toNat] := by rw [← ve]; exact ru
  have a3 := a2.app hl' (vs := vs) (by rw [upd_ne hne]; exact h1) (.one ru')
  exact k n.toNat _ (by rw [en]; exact hn) (List.getElem?_eq_getElem hlt) _ _ a3
end
end G
set_option Elab.async false
set_option linter.all false
set_option maxRecDepth 100000
set_option maxHeartbeats 4000000
/-! The head's facts by name; the call of a def by its promise. Printed by genmd.py. -/
namespace K29
open PySem PySem.Spec PyProof.Rows L2 G
/-- what is known of the module -/
structure Md (K : PySem.W.Frag) (mg : Str → Option Value) : Prop where
  c : He.SaysD fa fn K
  more : ex K = true
  ns : ∃ h : Heap, K.In h ∧ h.Ns mainGlobals mg
section
variable {K : PySem.W.Frag} {mg : Str → Option Value}
abbrev C (K : PySem.W.Frag) (x : Str) : Addr := He.ga K x
theorem Md.ois_integer (M : Md K mg) : mg "is_integer" = some (.ref (He.ga K "is_integer")) := let ⟨_, h1, h2⟩ := M.ns; He.glo_ok h1 h2 (M.c.fact 0)
theorem Md.ois_between (M : Md K mg) : mg "is_between" = some (.ref (He.ga K "is_between")) := let ⟨_, h1, h2⟩ := M.ns; He.glo_ok h1 h2 (M.c.fact 1)
theorem Md.ois_name (M : Md K mg) : mg "is_name" = some (.ref (He.ga K "is_name")) := let ⟨_, h1, h2⟩ := M.ns; He.glo_ok h1 h2 (M.c.fact 2)
theorem Md.oare_beside (M : Md K mg) : mg "are_beside" = some (.ref (He.ga K "are_beside")) := let ⟨_, h1, h2⟩ := M.ns; He.glo_ok h1 h2 (M.c.fact 3)
theorem Md.owalk_from (M : Md K mg) : mg "walk_from" = some (.ref (He.ga K "walk_from")) := let ⟨_, h1, h2⟩ := M.ns; He.glo_ok h1 h2 (M.c.fact 4)
theorem Md.ois_closed (M : Md K mg) : mg "is_closed" = some (.ref (He.ga K "is_closed")) := let ⟨_, h1, h2⟩ := M.ns; He.glo_ok h1 h2 (M.c.fact 5)
theorem Md.orow_of (M : Md K mg) : mg "row_of" = some (.ref (He.ga K "row_of")) := let ⟨_, h1, h2⟩ := M.ns; He.glo_ok h1 h2 (M.c.fact 6)
theorem Md.orows_in (M : Md K mg) : mg "rows_in" = some (.ref (He.ga K "rows_in")) := let ⟨_, h1, h2⟩ := M.ns; He.glo_ok h1 h2 (M.c.fact 7)
theorem Md.oare_sources (M : Md K mg) : mg "are_sources" = some (.ref (He.ga K "are_sources")) := let ⟨_, h1, h2⟩ := M.ns; He.glo_ok h1 h2 (M.c.fact 8)
theorem Md.oweb_in (M : Md K mg) : mg "web_in" = some (.ref (He.ga K "web_in")) := let ⟨_, h1, h2⟩ := M.ns; He.glo_ok h1 h2 (M.c.fact 9)
theorem Md.oweb_text (M : Md K mg) : mg "web_text" = some (.ref (He.ga K "web_text")) := let ⟨_, h1, h2⟩ := M.ns; He.glo_ok h1 h2 (M.c.fact 10)
theorem Md.ocheck_web (M : Md K mg) : mg "check_web" = some (.ref (He.ga K "check_web")) := let ⟨_, h1, h2⟩ := M.ns; He.glo_ok h1 h2 (M.c.fact 11)
theorem Md.ocheck_copy (M : Md K mg) : mg "check_copy" = some (.ref (He.ga K "check_copy")) := let ⟨_, h1, h2⟩ := M.ns; He.glo_ok h1 h2 (M.c.fact 12)
theorem Md.ocheck_line (M : Md K mg) : mg "check_line" = some (.ref (He.ga K "check_line")) := let ⟨_, h1, h2⟩ := M.ns; He.glo_ok h1 h2 (M.c.fact 13)
theorem Md.oall_rows (M : Md K mg) : mg "all_rows" = some (.ref (He.ga K "all_rows")) := let ⟨_, h1, h2⟩ := M.ns; He.glo_ok h1 h2 (M.c.fact 14)
theorem Md.ois_let (M : Md K mg) : mg "is_let" = some (.ref (He.ga K "is_let")) := let ⟨_, h1, h2⟩ := M.ns; He.glo_ok h1 h2 (M.c.fact 15)
theorem Md.ois_end_let (M : Md K mg) : mg "is_end_let" = some (.ref (He.ga K "is_end_let")) := let ⟨_, h1, h2⟩ := M.ns; He.glo_ok h1 h2 (M.c.fact 16)
theorem Md.ostates (M : Md K mg) : mg "states" = some (.ref (He.ga K "states")) := let ⟨_, h1, h2⟩ := M.ns; He.glo_ok h1 h2 (M.c.fact 17)
theorem Md.ois_row_let (M : Md K mg) : mg "is_row_let" = some (.ref (He.ga K "is_row_let")) := let ⟨_, h1, h2⟩ := M.ns; He.glo_ok h1 h2 (M.c.fact 18)
theorem Md.onumber_in (M : Md K mg) : mg "number_in" = some (.ref (He.ga K "number_in")) := let ⟨_, h1, h2⟩ := M.ns; He.glo_ok h1 h2 (M.c.fact 19)
theorem Md.onumber_with (M : Md K mg) : mg "number_with" = some (.ref (He.ga K "number_with")) := let ⟨_, h1, h2⟩ := M.ns; He.glo_ok h1 h2 (M.c.fact 20)
theorem Md.osettings_of (M : Md K mg) : mg "settings_of" = some (.ref (He.ga K "settings_of")) := let ⟨_, h1, h2⟩ := M.ns; He.glo_ok h1 h2 (M.c.fact 21)
theorem Md.ocheck_some (M : Md K mg) : mg "check_some" = some (.ref (He.ga K "check_some")) := let ⟨_, h1, h2⟩ := M.ns; He.glo_ok h1 h2 (M.c.fact 22)
theorem Md.ocheck_weights (M : Md K mg) : mg "check_weights" = some (.ref (He.ga K "check_weights")) := let ⟨_, h1, h2⟩ := M.ns; He.glo_ok h1 h2 (M.c.fact 23)
theorem Md.ocheck_weighed (M : Md K mg) : mg "check_weighed" = some (.ref (He.ga K "check_weighed")) := let ⟨_, h1, h2⟩ := M.ns; He.glo_ok h1 h2 (M.c.fact 24)
theorem Md.oby_line (M : Md K mg) : mg "by_line" = some (.ref (He.ga K "by_line")) := let ⟨_, h1, h2⟩ := M.ns; He.glo_ok h1 h2 (M.c.fact 25)
theorem Md.osums_in (M : Md K mg) : mg "sums_in" = some (.ref (He.ga K "sums_in")) := let ⟨_, h1, h2⟩ := M.ns; He.glo_ok h1 h2 (M.c.fact 26)
theorem Md.obest_with (M : Md K mg) : mg "best_with" = some (.ref (He.ga K "best_with")) := let ⟨_, h1, h2⟩ := M.ns; He.glo_ok h1 h2 (M.c.fact 27)
theorem Md.obest_sum (M : Md K mg) : mg "best_sum" = some (.ref (He.ga K "best_sum")) := let ⟨_, h1, h2⟩ := M.ns; He.glo_ok h1 h2 (M.c.fact 28)
theorem Md.oworth (M : Md K mg) : mg "worth" = some (.ref (He.ga K "worth")) := let ⟨_, h1, h2⟩ := M.ns; He.glo_ok h1 h2 (M.c.fact 29)
theorem Md.o_law_well (M : Md K mg) : mg "_law_well" = some (.ref (He.ga K "_law_well")) := let ⟨_, h1, h2⟩ := M.ns; He.glo_ok h1 h2 (M.c.fact 30)
theorem Md.o_law_draw (M : Md K mg) : mg "_law_draw" = some (.ref (He.ga K "_law_draw")) := let ⟨_, h1, h2⟩ := M.ns; He.glo_ok h1 h2 (M.c.fact 31)
theorem Md.o_law_names (M : Md K mg) : mg "_law_names" = some (.ref (He.ga K "_law_names")) := let ⟨_, h1, h2⟩ := M.ns; He.glo_ok h1 h2 (M.c.fact 32)
theorem Md.o_law_free (M : Md K mg) : mg "_law_free" = some (.ref (He.ga K "_law_free")) := let ⟨_, h1, h2⟩ := M.ns; He.glo_ok h1 h2 (M.c.fact 33)
theorem Md.o_law_block (M : Md K mg) : mg "_law_block" = some (.ref (He.ga K "_law_block")) := let ⟨_, h1, h2⟩ := M.ns; He.glo_ok h1 h2 (M.c.fact 34)
theorem Md.o_law_ways_in (M : Md K mg) : mg "_law_ways_in" = some (.ref (He.ga K "_law_ways_in")) := let ⟨_, h1, h2⟩ := M.ns; He.glo_ok h1 h2 (M.c.fact 35)
theorem Md.o_law_laid (M : Md K mg) : mg "_law_laid" = some (.ref (He.ga K "_law_laid")) := let ⟨_, h1, h2⟩ := M.ns; He.glo_ok h1 h2 (M.c.fact 36)
theorem Md.o_law_web (M : Md K mg) : mg "_law_web" = some (.ref (He.ga K "_law_web")) := let ⟨_, h1, h2⟩ := M.ns; He.glo_ok h1 h2 (M.c.fact 37)
theorem Md.o_law_text (M : Md K mg) : mg "_law_text" = some (.ref (He.ga K "_law_text")) := let ⟨_, h1, h2⟩ := M.ns; He.glo_ok h1 h2 (M.c.fact 38)
theorem Md.o_law_lines (M : Md K mg) : mg "_law_lines" = some (.ref (He.ga K "_law_lines")) := let ⟨_, h1, h2⟩ := M.ns; He.glo_ok h1 h2 (M.c.fact 39)
theorem Md.o_law_inner (M : Md K mg) : mg "_law_inner" = some (.ref (He.ga K "_law_inner")) := let ⟨_, h1, h2⟩ := M.ns; He.glo_ok h1 h2 (M.c.fact 40)
theorem Md.o_law_tuples (M : Md K mg) : mg "_law_tuples" = some (.ref (He.ga K "_law_tuples")) := let ⟨_, h1, h2⟩ := M.ns; He.glo_ok h1 h2 (M.c.fact 41)
theorem Md.o_law_choices (M : Md K mg) : mg "_law_choices" = some (.ref (He.ga K "_law_choices")) := let ⟨_, h1, h2⟩ := M.ns; He.glo_ok h1 h2 (M.c.fact 42)
theorem Md.o_law_table (M : Md K mg) : mg "_law_table" = some (.ref (He.ga K "_law_table")) := let ⟨_, h1, h2⟩ := M.ns; He.glo_ok h1 h2 (M.c.fact 43)
theorem Md.o_law_row (M : Md K mg) : mg "_law_row" = some (.ref (He.ga K "_law_row")) := let ⟨_, h1, h2⟩ := M.ns; He.glo_ok h1 h2 (M.c.fact 44)
theorem Md.o_law_same (M : Md K mg) : mg "_law_same" = some (.ref (He.ga K "_law_same")) := let ⟨_, h1, h2⟩ := M.ns; He.glo_ok h1 h2 (M.c.fact 45)
theorem Md.o_law_loads (M : Md K mg) : mg "_law_loads" = some (.ref (He.ga K "_law_loads")) := let ⟨_, h1, h2⟩ := M.ns; He.glo_ok h1 h2 (M.c.fact 46)
theorem Md.o_law_total (M : Md K mg) : mg "_law_total" = some (.ref (He.ga K "_law_total")) := let ⟨_, h1, h2⟩ := M.ns; He.glo_ok h1 h2 (M.c.fact 47)
theorem Md.o_law_try (M : Md K mg) : mg "_law_try" = some (.ref (He.ga K "_law_try")) := let ⟨_, h1, h2⟩ := M.ns; He.glo_ok h1 h2 (M.c.fact 48)
theorem Md.o_law_due (M : Md K mg) : mg "_law_due" = some (.ref (He.ga K "_law_due")) := let ⟨_, h1, h2⟩ := M.ns; He.glo_ok h1 h2 (M.c.fact 49)
theorem Md.o_law_small_right (M : Md K mg) : mg "_law_small_right" = some (.ref (He.ga K "_law_small_right")) := let ⟨_, h1, h2⟩ := M.ns; He.glo_ok h1 h2 (M.c.fact 50)
theorem Md.o_law_zigzag (M : Md K mg) : mg "_law_zigzag" = some (.ref (He.ga K "_law_zigzag")) := let ⟨_, h1, h2⟩ := M.ns; He.glo_ok h1 h2 (M.c.fact 51)
theorem Md.o_law_kept_ways (M : Md K mg) : mg "_law_kept_ways" = some (.ref (He.ga K "_law_kept_ways")) := let ⟨_, h1, h2⟩ := M.ns; He.glo_ok h1 h2 (M.c.fact 52)
theorem Md.o_law_great_right (M : Md K mg) : mg "_law_great_right" = some (.ref (He.ga K "_law_great_right")) := let ⟨_, h1, h2⟩ := M.ns; He.glo_ok h1 h2 (M.c.fact 53)
theorem Md.olaw (M : Md K mg) : mg "law" = some (.ref (He.ga K "law")) := let ⟨_, h1, h2⟩ := M.ns; He.glo_ok h1 h2 (M.c.fact 54)
theorem Md.oWeb (M : Md K mg) : mg "Web" = some (.ref (He.ga K "Web")) := let ⟨_, h1, h2⟩ := M.ns; He.glo_ok h1 h2 (M.c.fact 55)
theorem Md.oNoChoice (M : Md K mg) : mg "NoChoice" = some (.ref (He.ga K "NoChoice")) := let ⟨_, h1, h2⟩ := M.ns; He.glo_ok h1 h2 (M.c.fact 56)
theorem Md.mlen (M : Md K mg) : mg "len" = none := let ⟨_, h1, h2⟩ := M.ns; He.free_ok h1 h2 (M.c.fact 57)
theorem Md.misinstance (M : Md K mg) : mg "isinstance" = none := let ⟨_, h1, h2⟩ := M.ns; He.free_ok h1 h2 (M.c.fact 58)
theorem Md.mall (M : Md K mg) : mg "all" = none := let ⟨_, h1, h2⟩ := M.ns; He.free_ok h1 h2 (M.c.fact 59)
theorem Md.many (M : Md K mg) : mg "any" = none := let ⟨_, h1, h2⟩ := M.ns; He.free_ok h1 h2 (M.c.fact 60)
theorem Md.msum (M : Md K mg) : mg "sum" = none := let ⟨_, h1, h2⟩ := M.ns; He.free_ok h1 h2 (M.c.fact 61)
theorem Md.mmax (M : Md K mg) : mg "max" = none := let ⟨_, h1, h2⟩ := M.ns; He.free_ok h1 h2 (M.c.fact 62)
theorem Md.mmin (M : Md K mg) : mg "min" = none := let ⟨_, h1, h2⟩ := M.ns; He.free_ok h1 h2 (M.c.fact 63)
theorem Md.mrange (M : Md K mg) : mg "range" = none := let ⟨_, h1, h2⟩ := M.ns; He.free_ok h1 h2 (M.c.fact 64)
theorem Md.mzip (M : Md K mg) : mg "zip" = none := let ⟨_, h1, h2⟩ := M.ns; He.free_ok h1 h2 (M.c.fact 65)
theorem Md.mtuple (M : Md K mg) : mg "tuple" = none := let ⟨_, h1, h2⟩ := M.ns; He.free_ok h1 h2 (M.c.fact 66)
theorem Md.mlist (M : Md K mg) : mg "list" = none := let ⟨_, h1, h2⟩ := M.ns; He.free_ok h1 h2 (M.c.fact 67)
theorem Md.mset (M : Md K mg) : mg "set" = none := let ⟨_, h1, h2⟩ := M.ns; He.free_ok h1 h2 (M.c.fact 68)
theorem Md.mdict (M : Md K mg) : mg "dict" = none := let ⟨_, h1, h2⟩ := M.ns; He.free_ok h1 h2 (M.c.fact 69)
theorem Md.menumerate (M : Md K mg) : mg "enumerate" = none := let ⟨_, h1, h2⟩ := M.ns; He.free_ok h1 h2 (M.c.fact 70)
theorem Md.mint (M : Md K mg) : mg "int" = none := let ⟨_, h1, h2⟩ := M.ns; He.free_ok h1 h2 (M.c.fact 71)
theorem Md.mstr (M : Md K mg) : mg "str" = none := let ⟨_, h1, h2⟩ := M.ns; He.free_ok h1 h2 (M.c.fact 72)
theorem Md.mbool (M : Md K mg) : mg "bool" = none := let ⟨_, h1, h2⟩ := M.ns; He.free_ok h1 h2 (M.c.fact 73)
theorem Md.mabs (M : Md K mg) : mg "abs" = none := let ⟨_, h1, h2⟩ := M.ns; He.free_ok h1 h2 (M.c.fact 74)
theorem Md.mdivmod (M : Md K mg) : mg "divmod" = none := let ⟨_, h1, h2⟩ := M.ns; He.free_ok h1 h2 (M.c.fact 75)
theorem Md.gMOST_COPIES (M : Md K mg) : ∃ t, mg "MOST_COPIES" = some (.int 40 t) := let ⟨_, h1, h2⟩ := M.ns; He.int_ok h1 h2 (M.c.fact 76)
theorem Md.gMOST_WEIGHT (M : Md K mg) : ∃ t, mg "MOST_WEIGHT" = some (.int 1000000000000 t) := let ⟨_, h1, h2⟩ := M.ns; He.int_ok h1 h2 (M.c.fact 77)
theorem Md.gLETTERS (M : Md K mg) : ∃ t, mg "LETTERS" = some (.str "abcdefghijklmnopqrstuvwxyz" t) := let ⟨_, h1, h2⟩ := M.ns; He.str_ok h1 h2 (M.c.fact 78)
theorem Md.clsWeb (M : Md K mg) : Cls K (He.ga K "Web") := He.cls_ok (M.c.fact 79)
theorem Md.mkrWeb (M : Md K mg) : L2.Mk K (He.ga K "Web") (He.ma K (He.ga K "Web") "__init__") := He.mkr_ok (M.c.fact 80)
theorem Md.keepNoChoice (M : Md K mg) : PySem.W.keepIn K (.ref (He.ga K "NoChoice")) = true := He.keep_ok (M.c.fact 81)
theorem Md.exmNoChoice (M : Md K mg) : PySem.W.exmOne K (.ref (He.ga K "NoChoice")) (.ref (He.ga K "NoChoice")) = some true := He.exm_ok (M.c.fact 82)
theorem Md.noat_written (M : Md K mg) : NoAttr K (He.ga K "Web") "written" := He.noat_ok (M.c.fact 83)
theorem Md.noat_rows (M : Md K mg) : NoAttr K (He.ga K "Web") "rows" := He.noat_ok (M.c.fact 84)
theorem Md.noat_heads (M : Md K mg) : NoAttr K (He.ga K "Web") "heads" := He.noat_ok (M.c.fact 85)
theorem Md.noat_pairs (M : Md K mg) : NoAttr K (He.ga K "Web") "pairs" := He.noat_ok (M.c.fact 86)
theorem Md.noat_zigzag_rows (M : Md K mg) : NoAttr K (He.ga K "Web") "zigzag_rows" := He.noat_ok (M.c.fact 87)
theorem Md.dis_integer (M : Md K mg) : ∃ fd, FunD K dis_integer.name dis_integer.qual dis_integer.params dis_integer.body dis_integer.scope (dis_integer.dvs K) (dis_integer.kws K) (He.fAd K dis_integer.at_) fd := M.c.def_ 0
theorem Md.dis_between (M : Md K mg) : ∃ fd, FunD K dis_between.name dis_between.qual dis_between.params dis_between.body dis_between.scope (dis_between.dvs K) (dis_between.kws K) (He.fAd K dis_between.at_) fd := M.c.def_ 1
theorem Md.dis_name (M : Md K mg) : ∃ fd, FunD K dis_name.name dis_name.qual dis_name.params dis_name.body dis_name.scope (dis_name.dvs K) (dis_name.kws K) (He.fAd K dis_name.at_) fd := M.c.def_ 2
theorem Md.dare_beside (M : Md K mg) : ∃ fd, FunD K dare_beside.name dare_beside.qual dare_beside.params dare_beside.body dare_beside.scope (dare_beside.dvs K) (dare_beside.kws K) (He.fAd K dare_beside.at_) fd := M.c.def_ 3
theorem Md.dwalk_from (M : Md K mg) : ∃ fd, FunD K dwalk_from.name dwalk_from.qual dwalk_from.params dwalk_from.body dwalk_from.scope (dwalk_from.dvs K) (dwalk_from.kws K) (He.fAd K dwalk_from.at_) fd := M.c.def_ 4
theorem Md.dis_closed (M : Md K mg) : ∃ fd, FunD K dis_closed.name dis_closed.qual dis_closed.params dis_closed.body dis_closed.scope (dis_closed.dvs K) (dis_closed.kws K) (He.fAd K dis_closed.at_) fd := M.c.def_ 5
theorem Md.drow_of (M : Md K mg) : ∃ fd, FunD K drow_of.name drow_of.qual drow_of.params drow_of.body drow_of.scope (drow_of.dvs K) (drow_of.kws K) (He.fAd K drow_of.at_) fd := M.c.def_ 6
theorem Md.drows_in (M : Md K mg) : ∃ fd, FunD K drows_in.name drows_in.qual drows_in.params drows_in.body drows_in.scope (drows_in.dvs K) (drows_in.kws K) (He.fAd K drows_in.at_) fd := M.c.def_ 7
theorem Md.dare_sources (M : Md K mg) : ∃ fd, FunD K dare_sources.name dare_sources.qual dare_sources.params dare_sources.body dare_sources.scope (dare_sources.dvs K) (dare_sources.kws K) (He.fAd K dare_sources.at_) fd := M.c.def_ 8
theorem Md.dweb_in (M : Md K mg) : ∃ fd, FunD K dweb_in.name dweb_in.qual dweb_in.params dweb_in.body dweb_in.scope (dweb_in.dvs K) (dweb_in.kws K) (He.fAd K dweb_in.at_) fd := M.c.def_ 9
theorem Md.dweb_text (M : Md K mg) : ∃ fd, FunD K dweb_text.name dweb_text.qual dweb_text.params dweb_text.body dweb_text.scope (dweb_text.dvs K) (dweb_text.kws K) (He.fAd K dweb_text.at_) fd := M.c.def_ 10
theorem Md.dWebInit (M : Md K mg) : ∃ fd, FunD K dWebInit.name dWebInit.qual dWebInit.params dWebInit.body dWebInit.scope (dWebInit.dvs K) (dWebInit.kws K) (He.fAd K dWebInit.at_) fd := M.c.def_ 11
theorem Md.dcheck_web (M : Md K mg) : ∃ fd, FunD K dcheck_web.name dcheck_web.qual dcheck_web.params dcheck_web.body dcheck_web.scope (dcheck_web.dvs K) (dcheck_web.kws K) (He.fAd K dcheck_web.at_) fd := M.c.def_ 12
theorem Md.dcheck_copy (M : Md K mg) : ∃ fd, FunD K dcheck_copy.name dcheck_copy.qual dcheck_copy.params dcheck_copy.body dcheck_copy.scope (dcheck_copy.dvs K) (dcheck_copy.kws K) (He.fAd K dcheck_copy.at_) fd := M.c.def_ 13
theorem Md.dcheck_line (M : Md K mg) : ∃ fd, FunD K dcheck_line.name dcheck_line.qual dcheck_line.params dcheck_line.body dcheck_line.scope (dcheck_line.dvs K) (dcheck_line.kws K) (He.fAd K dcheck_line.at_) fd := M.c.def_ 14
theorem Md.dall_rows (M : Md K mg) : ∃ fd, FunD K dall_rows.name dall_rows.qual dall_rows.params dall_rows.body dall_rows.scope (dall_rows.dvs K) (dall_rows.kws K) (He.fAd K dall_rows.at_) fd := M.c.def_ 15
theorem Md.dis_let (M : Md K mg) : ∃ fd, FunD K dis_let.name dis_let.qual dis_let.params dis_let.body dis_let.scope (dis_let.dvs K) (dis_let.kws K) (He.fAd K dis_let.at_) fd := M.c.def_ 16
theorem Md.dis_end_let (M : Md K mg) : ∃ fd, FunD K dis_end_let.name dis_end_let.qual dis_end_let.params dis_end_let.body dis_end_let.scope (dis_end_let.dvs K) (dis_end_let.kws K) (He.fAd K dis_end_let.at_) fd := M.c.def_ 17
theorem Md.dstates (M : Md K mg) : ∃ fd, FunD K dstates.name dstates.qual dstates.params dstates.body dstates.scope (dstates.dvs K) (dstates.kws K) (He.fAd K dstates.at_) fd := M.c.def_ 18
theorem Md.dis_row_let (M : Md K mg) : ∃ fd, FunD K dis_row_let.name dis_row_let.qual dis_row_let.params dis_row_let.body dis_row_let.scope (dis_row_let.dvs K) (dis_row_let.kws K) (He.fAd K dis_row_let.at_) fd := M.c.def_ 19
theorem Md.dnumber_in (M : Md K mg) : ∃ fd, FunD K dnumber_in.name dnumber_in.qual dnumber_in.params dnumber_in.body dnumber_in.scope (dnumber_in.dvs K) (dnumber_in.kws K) (He.fAd K dnumber_in.at_) fd := M.c.def_ 20
theorem Md.dnumber_with (M : Md K mg) : ∃ fd, FunD K dnumber_with.name dnumber_with.qual dnumber_with.params dnumber_with.body dnumber_with.scope (dnumber_with.dvs K) (dnumber_with.kws K) (He.fAd K dnumber_with.at_) fd := M.c.def_ 21
theorem Md.dsettings_of (M : Md K mg) : ∃ fd, FunD K dsettings_of.name dsettings_of.qual dsettings_of.params dsettings_of.body dsettings_of.scope (dsettings_of.dvs K) (dsettings_of.kws K) (He.fAd K dsettings_of.at_) fd := M.c.def_ 22
theorem Md.dcheck_some (M : Md K mg) : ∃ fd, FunD K dcheck_some.name dcheck_some.qual dcheck_some.params dcheck_some.body dcheck_some.scope (dcheck_some.dvs K) (dcheck_some.kws K) (He.fAd K dcheck_some.at_) fd := M.c.def_ 23
theorem Md.dcheck_weights (M : Md K mg) : ∃ fd, FunD K dcheck_weights.name dcheck_weights.qual dcheck_weights.params dcheck_weights.body dcheck_weights.scope (dcheck_weights.dvs K) (dcheck_weights.kws K) (He.fAd K dcheck_weights.at_) fd := M.c.def_ 24
theorem Md.dcheck_weighed (M : Md K mg) : ∃ fd, FunD K dcheck_weighed.name dcheck_weighed.qual dcheck_weighed.params dcheck_weighed.body dcheck_weighed.scope (dcheck_weighed.dvs K) (dcheck_weighed.kws K) (He.fAd K dcheck_weighed.at_) fd := M.c.def_ 25
theorem Md.dby_line (M : Md K mg) : ∃ fd, FunD K dby_line.name dby_line.qual dby_line.params dby_line.body dby_line.scope (dby_line.dvs K) (dby_line.kws K) (He.fAd K dby_line.at_) fd := M.c.def_ 26
theorem Md.dsums_in (M : Md K mg) : ∃ fd, FunD K dsums_in.name dsums_in.qual dsums_in.params dsums_in.body dsums_in.scope (dsums_in.dvs K) (dsums_in.kws K) (He.fAd K dsums_in.at_) fd := M.c.def_ 27
theorem Md.dbest_with (M : Md K mg) : ∃ fd, FunD K dbest_with.name dbest_with.qual dbest_with.params dbest_with.body dbest_with.scope (dbest_with.dvs K) (dbest_with.kws K) (He.fAd K dbest_with.at_) fd := M.c.def_ 28
theorem Md.dbest_sum (M : Md K mg) : ∃ fd, FunD K dbest_sum.name dbest_sum.qual dbest_sum.params dbest_sum.body dbest_sum.scope (dbest_sum.dvs K) (dbest_sum.kws K) (He.fAd K dbest_sum.at_) fd := M.c.def_ 29
theorem Md.dworth (M : Md K mg) : ∃ fd, FunD K dworth.name dworth.qual dworth.params dworth.body dworth.scope (dworth.dvs K) (dworth.kws K) (He.fAd K dworth.at_) fd := M.c.def_ 30
theorem Md.d_Lwell (M : Md K mg) : ∃ fd, FunD K d_Lwell.name d_Lwell.qual d_Lwell.params d_Lwell.body d_Lwell.scope (d_Lwell.dvs K) (d_Lwell.kws K) (He.fAd K d_Lwell.at_) fd := M.c.def_ 31
theorem Md.d_Ldraw (M : Md K mg) : ∃ fd, FunD K d_Ldraw.name d_Ldraw.qual d_Ldraw.params d_Ldraw.body d_Ldraw.scope (d_Ldraw.dvs K) (d_Ldraw.kws K) (He.fAd K d_Ldraw.at_) fd := M.c.def_ 32
theorem Md.d_Lnames (M : Md K mg) : ∃ fd, FunD K d_Lnames.name d_Lnames.qual d_Lnames.params d_Lnames.body d_Lnames.scope (d_Lnames.dvs K) (d_Lnames.kws K) (He.fAd K d_Lnames.at_) fd := M.c.def_ 33
theorem Md.d_Lfree (M : Md K mg) : ∃ fd, FunD K d_Lfree.name d_Lfree.qual d_Lfree.params d_Lfree.body d_Lfree.scope (d_Lfree.dvs K) (d_Lfree.kws K) (He.fAd K d_Lfree.at_) fd := M.c.def_ 34
theorem Md.d_Lblock (M : Md K mg) : ∃ fd, FunD K d_Lblock.name d_Lblock.qual d_Lblock.params d_Lblock.body d_Lblock.scope (d_Lblock.dvs K) (d_Lblock.kws K) (He.fAd K d_Lblock.at_) fd := M.c.def_ 35
theorem Md.d_Lways_in (M : Md K mg) : ∃ fd, FunD K d_Lways_in.name d_Lways_in.qual d_Lways_in.params d_Lways_in.body d_Lways_in.scope (d_Lways_in.dvs K) (d_Lways_in.kws K) (He.fAd K d_Lways_in.at_) fd := M.c.def_ 36
theorem Md.d_Llaid (M : Md K mg) : ∃ fd, FunD K d_Llaid.name d_Llaid.qual d_Llaid.params d_Llaid.body d_Llaid.scope (d_Llaid.dvs K) (d_Llaid.kws K) (He.fAd K d_Llaid.at_) fd := M.c.def_ 37
theorem Md.d_Lweb (M : Md K mg) : ∃ fd, FunD K d_Lweb.name d_Lweb.qual d_Lweb.params d_Lweb.body d_Lweb.scope (d_Lweb.dvs K) (d_Lweb.kws K) (He.fAd K d_Lweb.at_) fd := M.c.def_ 38
theorem Md.d_Ltext (M : Md K mg) : ∃ fd, FunD K d_Ltext.name d_Ltext.qual d_Ltext.params d_Ltext.body d_Ltext.scope (d_Ltext.dvs K) (d_Ltext.kws K) (He.fAd K d_Ltext.at_) fd := M.c.def_ 39
theorem Md.d_Llines (M : Md K mg) : ∃ fd, FunD K d_Llines.name d_Llines.qual d_Llines.params d_Llines.body d_Llines.scope (d_Llines.dvs K) (d_Llines.kws K) (He.fAd K d_Llines.at_) fd := M.c.def_ 40
theorem Md.d_Linner (M : Md K mg) : ∃ fd, FunD K d_Linner.name d_Linner.qual d_Linner.params d_Linner.body d_Linner.scope (d_Linner.dvs K) (d_Linner.kws K) (He.fAd K d_Linner.at_) fd := M.c.def_ 41
theorem Md.d_Ltuples (M : Md K mg) : ∃ fd, FunD K d_Ltuples.name d_Ltuples.qual d_Ltuples.params d_Ltuples.body d_Ltuples.scope (d_Ltuples.dvs K) (d_Ltuples.kws K) (He.fAd K d_Ltuples.at_) fd := M.c.def_ 42
theorem Md.d_Lchoices (M : Md K mg) : ∃ fd, FunD K d_Lchoices.name d_Lchoices.qual d_Lchoices.params d_Lchoices.body d_Lchoices.scope (d_Lchoices.dvs K) (d_Lchoices.kws K) (He.fAd K d_Lchoices.at_) fd := M.c.def_ 43
theorem Md.d_Ltable (M : Md K mg) : ∃ fd, FunD K d_Ltable.name d_Ltable.qual d_Ltable.params d_Ltable.body d_Ltable.scope (d_Ltable.dvs K) (d_Ltable.kws K) (He.fAd K d_Ltable.at_) fd := M.c.def_ 44
theorem Md.d_Lrow (M : Md K mg) : ∃ fd, FunD K d_Lrow.name d_Lrow.qual d_Lrow.params d_Lrow.body d_Lrow.scope (d_Lrow.dvs K) (d_Lrow.kws K) (He.fAd K d_Lrow.at_) fd := M.c.def_ 45
theorem Md.d_Lsame (M : Md K mg) : ∃ fd, FunD K d_Lsame.name d_Lsame.qual d_Lsame.params d_Lsame.body d_Lsame.scope (d_Lsame.dvs K) (d_Lsame.kws K) (He.fAd K d_Lsame.at_) fd := M.c.def_ 46
theorem Md.d_Lloads (M : Md K mg) : ∃ fd, FunD K d_Lloads.name d_Lloads.qual d_Lloads.params d_Lloads.body d_Lloads.scope (d_Lloads.dvs K) (d_Lloads.kws K) (He.fAd K d_Lloads.at_) fd := M.c.def_ 47
theorem Md.d_Ltotal (M : Md K mg) : ∃ fd, FunD K d_Ltotal.name d_Ltotal.qual d_Ltotal.params d_Ltotal.body d_Ltotal.scope (d_Ltotal.dvs K) (d_Ltotal.kws K) (He.fAd K d_Ltotal.at_) fd := M.c.def_ 48
theorem Md.d_Ltry (M : Md K mg) : ∃ fd, FunD K d_Ltry.name d_Ltry.qual d_Ltry.params d_Ltry.body d_Ltry.scope (d_Ltry.dvs K) (d_Ltry.kws K) (He.fAd K d_Ltry.at_) fd := M.c.def_ 49
theorem Md.d_Ldue (M : Md K mg) : ∃ fd, FunD K d_Ldue.name d_Ldue.qual d_Ldue.params d_Ldue.body d_Ldue.scope (d_Ldue.dvs K) (d_Ldue.kws K) (He.fAd K d_Ldue.at_) fd := M.c.def_ 50
theorem Md.d_Lsmall_right (M : Md K mg) : ∃ fd, FunD K d_Lsmall_right.name d_Lsmall_right.qual d_Lsmall_right.params d_Lsmall_right.body d_Lsmall_right.scope (d_Lsmall_right.dvs K) (d_Lsmall_right.kws K) (He.fAd K d_Lsmall_right.at_) fd := M.c.def_ 51
theorem Md.d_Lzigzag (M : Md K mg) : ∃ fd, FunD K d_Lzigzag.name d_Lzigzag.qual d_Lzigzag.params d_Lzigzag.body d_Lzigzag.scope (d_Lzigzag.dvs K) (d_Lzigzag.kws K) (He.fAd K d_Lzigzag.at_) fd := M.c.def_ 52
theorem Md.d_Lkept_ways (M : Md K mg) : ∃ fd, FunD K d_Lkept_ways.name d_Lkept_ways.qual d_Lkept_ways.params d_Lkept_ways.body d_Lkept_ways.scope (d_Lkept_ways.dvs K) (d_Lkept_ways.kws K) (He.fAd K d_Lkept_ways.at_) fd := M.c.def_ 53
theorem Md.d_Lgreat_right (M : Md K mg) : ∃ fd, FunD K d_Lgreat_right.name d_Lgreat_right.qual d_Lgreat_right.params d_Lgreat_right.body d_Lgreat_right.scope (d_Lgreat_right.dvs K) (d_Lgreat_right.kws K) (He.fAd K d_Lgreat_right.at_) fd := M.c.def_ 54
theorem Md.dlaw (M : Md K mg) : ∃ fd, FunD K dlaw.name dlaw.qual dlaw.params dlaw.body dlaw.scope (dlaw.dvs K) (dlaw.kws K) (He.fAd K dlaw.at_) fd := M.c.def_ 55
end
/-- a def of the module, called by its name -/
structure Cal (P : Program) (w : World) (K : PySem.W.Frag) (mg : Str → Option Value) (base : Heap) (k : Nat) (x : Str) (ps : List Str) (sp : Sp) : Prop where
  ex : ∃ f fd, mg x = some (.ref f) ∧ PySem.W.keepIn K (.ref f) = true ∧ Binds K fd ps [] ∧ FnOk P w K mg base CX0 k f fd ps sp
section
variable {X : Cx} {k : Nat} {x : Str} {p pos apos cpos : Pos} {ps : List Str} {sp : Sp} {e o : Expr} {es : List Expr} {t : TA} {te to : TE}
theorem pe_cal (c : Cal X.prog X.w X.K X.mg X.base k x ps sp) (hr : Room k X.A) (hg : Gl X x) (ha : PA X (e :: es) t) (hdb : (x == ("__debug__" : Str)) = false := by decide) (he : starEach (e :: es) X.env = (false, eval e X.env) :: starEach es X.env := by rfl) (hpl : (backTo pos (starEach es X.env)).any (·.1) = false := by rfl) :
    PE X (.Call (.Name x p) (e :: es) [] pos) (tCall sp [] E0 t) := by
  obtain ⟨f, fd, hm, hk, hb, F⟩ := c.ex
  exact pe_call F hr hg hm hk hb .nil pass0 ha hdb he hpl
theorem pe_gint {i : Int} {pos : Pos} (h : ∃ t, X.mg x = some (.int i t)) (hg : Gl X x) (hd : (x == ("__debug__" : Str)) = false := by decide) : PE X (.Name x pos) (tC (.int i)) := by
  obtain ⟨t, h⟩ := h
  exact pe_glob hg h ⟨t, rfl⟩ hd
theorem pe_gstr {z : Str} {pos : Pos} (h : ∃ t, X.mg x = some (.str z t)) (hg : Gl X x) (hd : (x == ("__debug__" : Str)) = false := by decide) : PE X (.Name x pos) (tC (.str z)) := by
  obtain ⟨t, h⟩ := h
  exact pe_glob hg h ⟨t, rfl⟩ hd
/-! ### a tuple whose object is known to have no dict -/
def frzT (H : Hp) (v : V) : Prop := ∃ (a : Addr) (o : Obj) (u : List V), v = .ref a ∧ H a = some (.frz o (.tup u)) ∧ o.dict = none
/-- tuple(xs) of a list, the new tuple known -/
theorem call_tupF : CallR X (.type "tuple") (fun xs H Q => ∃ p ys, xs = [.ref p] ∧ SqL X.K H p ys ∧ ∀ l o, H l = none → o.dict = none → Q (.ref l) (upd H l (.frz o (.tup ys)))) := by
  intro pins s σ H xs us Q I r h
  obtain ⟨p, ys, rfl, hs, q⟩ := h
  obtain ⟨u, rfl, ru⟩ := vals1 r
  cases ru
  obtain ⟨its, rv, pl, hz⟩ := I.list hs
  refine call_tuple_list pl.isList (fun h' hk => ?_) (by rw [List.size_toArray, ← rv.length]; exact hz)
  have I1 : Inv X pins σ H { s with heap := h' } := I.kept (t' := s.toks) hk
  have I2 : Inv X pins σ (upd H h'.objs.size (.frz { cls := .type "tuple", data := .seq its.toArray } (.tup ys))) { s with heap := h'.push { cls := .type "tuple", data := .seq its.toArray } } :=
    I1.laid (t' := s.toks) (fun b o e => Heap.get?_push_of_some _ e) (Nat.le_refl _) (show ObjOk X.prog X.w _ _ _ (.frz _ (.tup ys)) from ⟨Heap.get?_push_size _ rfl, hz, its, rv, IsTup.new _ _⟩)
  exact ⟨.ref h'.objs.size, _, I2, rfl, q _ _ (I1.hok.fresh (Nat.le_refl _)) rfl⟩
def tBMU (r : V → List V → Hp → VK → Prop) (to : TE) (t : TA) : TE := fun σ H Q => to σ H fun x H1 => frzT H1 x ∧ t σ H1 fun xs H2 => r x xs H2 Q
theorem pe_bmU {name : Str} {id : String} {r : V → List V → Hp → VK → Prop} (pa : PlainAttrs "tuple") (slot : Slot "tuple" name id) (hty : typeOf (.builtin id) = pure (.type "method_descriptor")) (hm : MtR X id r) (ho : PE X o to) (ha : PA X (e :: es) t)
    (hbase : attributeBase o name X.env (eval o X.env) = eval o X.env := by rfl)
    (hfew : ((backTo cpos (starEach (e :: es) X.env)).all (fun x => !x.1) && (backToKw cpos (keywordEach [] X.env)).all (fun x => x.1.isSome)
      && decide ((e :: es).length + ([] : List Keyword).length + (if ([] : List Keyword).isEmpty then 0 else 1) < 30)) = true := by rfl)
    (hline : (apos.endLine == cpos.line) = true := by rfl) (hs : starEach (e :: es) X.env = (false, eval e X.env) :: starEach es X.env := by rfl) (hplain : (backTo cpos (starEach es X.env)).any (·.1) = false := by rfl) :
    PE X (.Call (.Attribute o name apos) (e :: es) [] cpos) (tBMU r to t) := by
  refine ⟨fun pins s σ H Q I h => ?_⟩
  refine wpAny_Call_method_late hbase hfew hline rfl (thn (ho.run pins s σ H _ I h) fun v s1 ⟨x, H1, I1, r1, ty, q1⟩ => ?_)
  obtain ⟨a, ob, u, rfl, hf, hd⟩ := ty
  cases r1
  obtain ⟨ho1, hz, its, rv, o2, ho2, hc2, _⟩ := I1.hok a _ hf
  rw [ho1] at ho2
  cases ho2
  refine ⟨"tuple", id, pa, slot, hty, ⟨ob, ho1, hc2⟩, fun b e => ?_, ?_⟩
  · cases e
    exact ⟨ob, ho1, hd⟩
  have hA := ha.run cpos pins s1 σ H1 _ I1 q1
  rw [hs] at hA ⊢
  refine Calls.callWith_builtin (by show (false || (backTo cpos (starEach es X.env)).any (·.1)) = false; rw [hplain] <;> rfl) (Calls.evalArgs_plain ?_)
  exact thn hA fun us s2 ⟨vs, H2, I2, r2, q2⟩ => hm pins s2 σ H2 (.ref a) vs _ us Q I2 rfl r2 q2
end
section
variable {P : Program} {w : World} {K : PySem.W.Frag} {mg : Str → Option Value} {base : Heap} {x qual : Str} {params : Arguments} {body : List Stmt} {scope : Scope} {f : Addr} {fd : FuncData} {N ps : List Str} {k : Nat} {x' : Str}
theorem cal_mk {ι : Type} {Pc : Wd → ι → Prop} {ss : ι → List Sl} {post : ι → Sl} (F : FunD K x qual params body scope [] [] f fd) (hm : mg x' = some (.ref f)) (S : FnScope N ps scope)
    (hb : ∀ (kV doc pm : Value) (an : Option Addr) (cdv ct : Value) (us : List Value), us.length = ps.length → bindArgs (PySem.W.fnOf x qual params body scope .none kV doc pm an cdv ct) ⟨us, []⟩ = pure (ps.zip us))
    (hn : ∀ i, (ss i).length = ps.length) (hN : Nat.ble ps.length N.length = true)
    (hbody : ∀ (cdv : Value) (A : Around) (outer : List Env) (s : Shared) (W : Wd) (A' : List Addr) (H : Hp) (i : ι) (Q : VK) (E : XK), Room k (A.deeper (envOfC qual scope s.heap.objs.size f cdv)) → Pc W i → Ok W A' H → Rt ⟨W, A', H, []⟩ (post i) Q →
      ∃ t, PSs (cxOf CX0 P w K mg base N qual scope f cdv A outer s H E).nox body t ∧ YS ⟨W, A', H, []⟩ (slots0 (ss i) N.length) [] t { nx := fun _ H' => Q .non H', rt := Q }) : Cal P w K mg base (k + 1) x' ps (spG Pc ss post) := by
  refine ⟨f, fd, hm, F.kp, F.bindsN hb, F.ok S (spG_len hn) fun cdv A outer s H vs Q E hr hsp => ?_⟩
  obtain ⟨W, A', i, ok, hp, args, q⟩ := hsp
  obtain ⟨t, h1, h2⟩ := hbody cdv A outer s W A' H i Q E hr hp ok (rt_of q)
  exact ⟨t, h1.nox, h2 _ _ (at_start ok args (by rw [hn]; exact Nat.le_of_ble_eq_true hN))⟩
end
end K29
set_option Elab.async false
set_option linter.all false
set_option maxRecDepth 100000
set_option maxHeartbeats 4000000
/-! The rules over data, part h: dicts whose keys are pairs of texts. -/
namespace G
open PySem PySem.Spec PyProof.Rows L2 PySem.W
/-- the key that a pair of texts is -/
def ky (k : Str × Str) : List Key := [Sum.inr k.1, Sum.inr k.2]
theorem ky_inj {a b : Str × Str} (h : ky a = ky b) : a = b := by
  unfold ky at h
  injection h with h1 h2
  injection h2 with h2 _
  exact Prod.ext (Sum.inr.inj h1) (Sum.inr.inj h2)
section
variable {α : Type} [DecidableEq α] [Datum α]
/-- what stands in the dict: f's values, at most n of them -/
def TabT (K : PySem.W.Frag) (f : Str × Str → Option α) (n : Nat) (o : HO) (H : Hp) : Prop := ∃ kvs, o = .dT kvs ∧ kvs.length ≤ n ∧ ∀ k, (f k = none → valV kvs (ky k) = none) ∧ ∀ a, f k = some a → ∃ v, valV kvs (ky k) = some v ∧ Rp K H v a
theorem TabT.same {K : PySem.W.Frag} {f : Str × Str → Option α} {n : Nat} {o : HO} {H H' : Hp} (e : Same H H') (h : TabT K f n o H) : TabT K f n o H' := by
  obtain ⟨kvs, e1, e2, e3⟩ := h
  exact ⟨kvs, e1, e2, fun k => ⟨(e3 k).1, fun a ha => let ⟨v, q, r⟩ := (e3 k).2 a ha; ⟨v, q, r.same e⟩⟩⟩
def LoT (K : PySem.W.Frag) (f : Str × Str → Option α) (n : Nat) : Lo := ⟨TabT K f n, TabT.same⟩
def DT (K : PySem.W.Frag) (f : Str × Str → Option α) (n : Nat) : Sl := ⟨fun v H => ∃ d o, v = .ref d ∧ H d = some o ∧ TabT K f n o H, fun e ⟨d, o, h1, h2, h3⟩ => ⟨d, o, h1, e _ _ h2, h3.same e⟩⟩
def oLo (t : Lo) : Oc := fun L u L1 => ∃ p : Addr, u = Vl (.ref p) ∧ L1 = (p, t) :: L
end
section
variable {K : PySem.W.Frag} {B : Bs} {g : Slots} {L : Ls} {te t1 t2 t3 ty td tv : TE} {tt tu : TT} {ta : TA} {t u w : Sl} {D : Ends} {rest ts tb : TS} {lo : Lo}
variable {α : Type} {_ : DecidableEq α} {_ : Datum α} {f : Str × Str → Option α} {n : Nat} {k : Str × Str}
/-- a new object of its own -/
theorem yo_new {o : HO} {te : TE} (hte : ∀ s H Q, (∀ p, H p = none → Q (.ref p) (upd H p o)) → te s H Q) (ho : ∀ H, lo.p o H) : YO B g L te (oLo lo) := fun s H a Q k => hte s H _ fun p hp => by
  have nA : p ∉ L.map (·.1) ++ B.A := a.hd.fresh hp
  have a' := a.addA (o := o) hp
  refine k _ _ (Vl (.ref p)) ((p, lo) :: L) ⟨p, rfl, rfl⟩ (a'.own a.hd.ok.sub (a.hd.h0 hp) (fun z => nA (List.mem_append_right _ z)) upd_same (ho _)) (Le.laid hp) (fun q hq => ?_) rfl
  rcases List.mem_cons.mp hq with z | z
  · rw [z]; exact .inr hp
  · exact .inl z
theorem tabT_nil {H : Hp} : TabT K (fun _ => (none : Option α)) 0 (.dT []) H := ⟨[], rfl, Nat.zero_le _, fun k => ⟨fun _ => rfl, fun _ h => nomatch h⟩⟩
theorem yo_dnewT : YO B g L tDNewT (oLo (LoT K (fun _ => (none : Option α)) 0)) := yo_new (o := .dT []) (fun _ _ _ h => h) fun _ => tabT_nil
theorem y_dnewT : Y B g L tDNewT (DT K (fun _ => (none : Option α)) 0) := fun s H a Q k p hp => k _ _ (Le.laid hp) (a.hd.ok.laid hp).j ⟨p, .dT [], rfl, a.hd.at_new hp, tabT_nil⟩
/-- a dict, perhaps a changing one, to be asked at once -/
def YD {α : Type} [DecidableEq α] [Datum α] (K : PySem.W.Frag) (B : Bs) (g : Slots) (L : Ls) (te : TE) (f : Str × Str → Option α) : Prop :=
  ∀ s H, At B g L s H → ∀ Q : VK, (∀ v H', Le B.W.M H H' → B.W.J H' → (∃ d kvs, v = .ref d ∧ lw B H' d = some (.dT kvs) ∧ ∀ k, (f k = none → valV kvs (ky k) = none) ∧ ∀ a, f k = some a → ∃ v, valV kvs (ky k) = some v ∧ Rp K (vw B L H') v a) → Q v H') → te s H Q
theorem yd_dat (h : Y B g L te (DT K f n)) : YD K B g L te f := fun s H a Q k => h s H a Q fun v H' e j p => by
  obtain ⟨d, o, e1, e2, kvs, rfl, _, e4⟩ := p
  exact k v H' e j ⟨d, kvs, e1, Hd.vl (a.hd.step e j) _ _ e2, e4⟩
theorem yd_loc {i j : Nat} {p : Addr} (h : g[i]? = some (some (Vl (.ref p)))) (hl : L[j]? = some (p, LoT K f n)) : YD K B g L (tVar i) f := fun s H a Q k => by
  obtain ⟨v, e1, e2⟩ := a.sg.at_ i _ h
  obtain ⟨o, e3, kvs, rfl, _, e5⟩ := a.hd.lo _ (List.mem_of_getElem? hl)
  have nm : p ∉ B.W.M := a.hd.nm _ (List.mem_of_getElem? hl)
  exact ⟨v, e1, k v H (Le.refl _ _) a.hd.ok.j ⟨p, kvs, e2, by unfold lw; rw [cut_out nm]; exact e3, e5⟩⟩
theorem dget_of {H : Hp} {d : Addr} {kvs : List (List Key × V)} {v : V} (h : H d = some (.dT kvs)) (r : Rp K H v k) : DGet H d v (valV kvs (ky k)) := by
  obtain ⟨b, rfl, hb⟩ := key_rp r
  exact DGet.t (k := ky k) h hb
theorem y_dnotinT (h1 : YL B g L ty (Is K k)) (h2 : YD K B g L td f) : Y B g L (tDNotIn ty td) (Is K (!(f k).isSome)) := fun s H a Q q => h1 s H a _ fun v H1 e1 j1 p1 => h2 s H1 (a.step e1 j1) _ fun x H2 e2 j2 p2 => by
  obtain ⟨d, kvs, rfl, hd, hv⟩ := p2
  refine ⟨d, _, rfl, dget_of (cut_of hd).2 (Rp.same lw_same (Rp.same (Hd.lsame e2) p1)), q _ H2 (e1.trans e2) j2 ?_⟩
  cases hf : f k with
  | none => rw [(hv k).1 hf]; exact rp_bl _
  | some a =>
    obtain ⟨v, hv, _⟩ := (hv k).2 a hf
    rw [hv]; exact rp_bl _
theorem y_dget2 {b : α} (h1 : YD K B g L td f) (h2 : YL B g L ty (Is K k)) (h3 : Y B g L tv (Is K b)) : Y B g L (tDGet2 td ty tv) (Is K ((f k).getD b)) := fun s H a Q q => h1 s H a _ fun x H1 e1 j1 p1 => by
  obtain ⟨d, kvs, rfl, hd, hv⟩ := p1
  refine ⟨d, rfl, .inr ⟨kvs, .inl (cut_of hd).2⟩, h2 s H1 (a.step e1 j1) _ fun v H2 e2 j2 p2 => h3 s H2 (a.step (e1.trans e2) j2) _ fun z H3 e3 j3 p3 => ?_⟩
  have hd3 := Hd.lsame (e2.trans e3) _ _ hd
  refine ⟨_, dget_of (cut_of hd3).2 (Rp.same lw_same (Rp.same (Hd.lsame e3) p2)), q _ H3 ((e1.trans e2).trans e3) j3 ?_⟩
  cases hf : f k with
  | none => rw [(hv k).1 hf]; exact p3
  | some b =>
    obtain ⟨v, hv, r⟩ := (hv k).2 b hf
    rw [hv]; exact Rp.same ((a.step e1 j1).hd.same (e2.trans e3)) r
theorem y_dgetT {b : α} (h1 : YD K B g L td f) (h2 : YL B g L ty (Is K k)) (hb : f k = some b) : Y B g L (tDGet td ty) (Is K b) := fun s H a Q q => h1 s H a _ fun x H1 e1 j1 p1 => h2 s H1 (a.step e1 j1) _ fun v H2 e2 j2 p2 => by
  obtain ⟨d, kvs, rfl, hd, hv⟩ := p1
  obtain ⟨z, hz, r⟩ := (hv k).2 b hb
  have hg := dget_of (cut_of (Hd.lsame e2 _ _ hd)).2 (Rp.same lw_same p2)
  rw [hz] at hg
  exact ⟨d, z, rfl, hg, q _ H2 (e1.trans e2) j2 (Rp.same ((a.step e1 j1).hd.same e2) r)⟩
/-- d[k] = v -/
theorem tabT_put {H : Hp} {kvs : List (List Key × V)} {b : α} {v : V} (h : kvs.length ≤ n ∧ ∀ k, (f k = none → valV kvs (ky k) = none) ∧ ∀ a, f k = some a → ∃ v, valV kvs (ky k) = some v ∧ Rp K H v a) (r : Rp K H v b) :
    TabT K (fun j => if j = k then some b else f j) (n + 1) (.dT (putK kvs (ky k) v)) H := by
  refine ⟨_, rfl, Nat.le_trans (length_putK _ _ _) (Nat.succ_le_succ h.1), fun j => ?_⟩
  rw [valV_put]
  by_cases e : j = k
  · subst e
    rw [if_pos rfl]
    show ((if j = j then some b else f j) = none → some v = none) ∧ ∀ a, (if j = j then some b else f j) = some a → ∃ z, some v = some z ∧ Rp K H z a
    rw [if_pos rfl]
    exact ⟨(fun z => by cases z), fun a ha => ⟨v, rfl, by cases ha; exact r⟩⟩
  · rw [if_neg fun z => e (ky_inj z)]
    show ((if j = k then some b else f j) = none → valV kvs (ky j) = none) ∧ ∀ a, (if j = k then some b else f j) = some a → ∃ z, valV kvs (ky j) = some z ∧ Rp K H z a
    rw [if_neg e]
    exact h.2 j
theorem ys_dputT {i j : Nat} {p : Addr} {b : α} (h : g[i]? = some (some (Vl (.ref p)))) (hl : L[j]? = some (p, LoT K f n)) (hk : Y B g L ty (Is K k)) (hv : Y B g L tv (Is K b)) (hz : n < sizeLine) (q : YS B g (L.set j (p, LoT K (fun j => if j = k then some b else f j) (n + 1))) rest D) :
    YS B g L (tSeq (sDPut (tVar i) ty tv) rest) D := fun s H a => hv s H a _ fun v H1 e1 j1 p1 => by
  have a1 := a.step e1 j1
  obtain ⟨x, f1, f2⟩ := a1.sg.at_ i _ h
  have ex : x = .ref p := f2
  subst ex
  refine ⟨.ref p, f1, hk s H1 a1 _ fun y H2 e2 j2 p2 => ?_⟩
  have a2 := a1.step e2 j2
  obtain ⟨o, e3, kvs, rfl, e4, e5⟩ := a2.hd.lo _ (List.mem_of_getElem? hl)
  obtain ⟨c, rfl, hc⟩ := key_rp (Rp.same vw_same p2)
  refine ⟨p, _, rfl, DPut.t (k := ky k) e3 hc (Nat.lt_of_le_of_lt e4 hz), q _ _ (a2.put hl (tabT_put ⟨e4, e5⟩ (Rp.same (a1.hd.same e2) p1)))⟩
end
end G
set_option Elab.async false
set_option linter.all false
set_option maxRecDepth 100000
set_option maxHeartbeats 4000000
/-! The layer's rules with the written part named (within a comprehension's block it must not hang on the block's state). -/
namespace G
open PySem PySem.Spec PyProof.Rows L2 PySem.W
section
variable {X : Cx} (K : PySem.W.Frag) (α : Type) [DecidableEq α] [Datum α]
theorem k_eq (hu : X.A.units + 64 < cLine) (hd : Datum.depth α ≤ 60 := by decide) (hK : X.K = K := by rfl) : OpR X (compareOp .Eq) (rEqT K α) := hK ▸ op_eqT α hu hd
theorem k_ne (hu : X.A.units + 64 < cLine) (hd : Datum.depth α ≤ 60 := by decide) (hK : X.K = K := by rfl) : OpR X (compareOp .NotEq) (rNeT K α) := hK ▸ op_neT α hu hd
theorem k_in (hu : X.A.units + 64 < cLine) (hd : Datum.depth α ≤ 60 := by decide) (hK : X.K = K := by rfl) : OpR X (compareOp .In) (rInT K α) := hK ▸ op_inT α hu hd
theorem k_notIn (hu : X.A.units + 64 < cLine) (hd : Datum.depth α ≤ 60 := by decide) (hK : X.K = K := by rfl) : OpR X (compareOp .NotIn) (rNotInT K α) := hK ▸ op_notInT α hu hd
theorem k_indexT (hu : X.A.units + 64 < cLine) (hd : Datum.depth α ≤ 60 := by decide) (hK : X.K = K := by rfl) : MtR X "list.index" (rIndexT K α) := hK ▸ mt_indexT α hu hd
theorem k_indexU (hu : X.A.units + 64 < cLine) (hd : Datum.depth α ≤ 60 := by decide) (hK : X.K = K := by rfl) : MtR X "tuple.index" (rIndexU K α) := hK ▸ mt_indexU α hu hd
theorem k_count (hu : X.A.units + 64 < cLine) (hd : Datum.depth α ≤ 60 := by decide) (hK : X.K = K := by rfl) : MtR X "list.count" (rCountT K α) := hK ▸ mt_countT α hu hd
end
section
variable {X : Cx} (K : PySem.W.Frag) {e o e2 : Expr} {es elts : List Expr} {te to : TE} {t ta : TA} {x : Str} {p pos apos cpos : Pos} {tg : Expr}
theorem k_catL (hK : X.K = K := by rfl) : OpR X (binaryOp .Add) (rCatG K) := hK ▸ op_catG
theorem k_catU (hK : X.K = K := by rfl) : OpR X (binaryOp .Add) (rCatA K) := hK ▸ op_catA
theorem k_ixL (hK : X.K = K := by rfl) : IxR X (rIxL K) := hK ▸ ix_list
theorem k_ixU (hK : X.K = K := by rfl) : IxR X (rIxT K) := hK ▸ ix_tup
theorem k_ixQ (hK : X.K = K := by rfl) : IxR X (rIx K) := hK ▸ ix_seq
theorem k_slL (hK : X.K = K := by rfl) : SlR X (rSlL K) := hK ▸ sl_list
theorem k_slU (hK : X.K = K := by rfl) : SlR X (rSlA K) := hK ▸ sl_tupA
theorem k_len (hK : X.K = K := by rfl) : CallR X (.builtin "len") (rLenQ K) := hK ▸ call_len_seq
theorem k_sum (hc : X.calm = true := by rfl) (hK : X.K = K := by rfl) : CallR X (.builtin "sum") (rSum K) := hK ▸ cr_sum hc
theorem k_max (hc : X.calm = true := by rfl) (hK : X.K = K := by rfl) : CallR X (.builtin "max") (rMax K) := hK ▸ cr_max hc
theorem k_all (hc : X.calm = true := by rfl) (hK : X.K = K := by rfl) : CallR X (.builtin "all") (rAll K) := hK ▸ cr_all hc
theorem k_any (hc : X.calm = true := by rfl) (hK : X.K = K := by rfl) : CallR X (.builtin "any") (rAny K) := hK ▸ cr_any hc
abbrev rListOf (K : PySem.W.Frag) : List V → Hp → VK → Prop := fun xs H Q => ∃ p ys, xs = [.ref p] ∧ (SqL K H p ys ∨ SqT K H p ys) ∧ ∀ l, H l = none → Q (.ref l) (upd H l (.lst ys))
theorem k_listOf (hK : X.K = K := by rfl) : CallR X (.type "list") (rListOf K) := hK ▸ call_list_of
theorem k_tupOf (hK : X.K = K := by rfl) : CallR X (.type "tuple") (rTupOf K) := hK ▸ call_tuple_of
abbrev rTupF (K : PySem.W.Frag) : List V → Hp → VK → Prop := fun xs H Q => ∃ p ys, xs = [.ref p] ∧ SqL K H p ys ∧ ∀ l o, H l = none → o.dict = none → Q (.ref l) (upd H l (.frz o (.tup ys)))
theorem k_tupF (hK : X.K = K := by rfl) : CallR X (.type "tuple") (rTupF K) := hK ▸ K29.call_tupF
theorem k_isi (hK : X.K = K := by rfl) : CallR X (.builtin "isinstance") (rIsi K) := hK ▸ call_isi
theorem k_extend (hK : X.K = K := by rfl) : MtM X "list.extend" (rExtendG K) := hK ▸ mt_extendG
theorem k_list (he : PE X e te) (hK : X.K = K := by rfl) : PI X tg e (iList K te) := hK ▸ pi_list he
theorem k_tup (he : PE X e te) (hK : X.K = K := by rfl) : PI X tg e (iTup K te) := hK ▸ pi_tup he
theorem k_zip {kk : Nat} {tpos : Pos} (b1 b2 : Bool) (hg : Gl X "zip") (hm : X.mg "zip" = none) (ha : PA X [e, e2] ta) (hK : X.K = K := by rfl)
    (hs : starEach [e, e2] X.env = (false, eval e X.env) :: starEach [e2] X.env := by rfl) (hpl : (backTo pos (starEach [e2] X.env)).any (·.1) = false := by rfl) : PI X (.Tuple elts kk tpos) (.Call (.Name "zip" p) [e, e2] [] pos) (iZipG K b1 b2 ta) := hK ▸ pi_zipG b1 b2 hg hm ha hs hpl
theorem k_enum {kk : Nat} {tpos : Pos} (b : Bool) (hg : Gl X "enumerate") (hm : X.mg "enumerate" = none) (ha : PA X [e] ta) (hK : X.K = K := by rfl) (hs : starEach [e] X.env = [(false, eval e X.env)] := by rfl) : PI X (.Tuple elts kk tpos) (.Call (.Name "enumerate" p) [e] [] pos) (iEnumG K b ta) := hK ▸ pi_enumG b hg hm ha hs
theorem k_revL {k : Nat} {p1 p2 p3 : Pos} (he : PE X e te) (hK : X.K = K := by rfl) : PE X (.Subscript e (.Slice none none (some (.UnaryOp .USub (.Constant (.int 1) k p1) p2)) p3) pos) (tRevL K te) := hK ▸ pe_revL he
theorem k_revU {k : Nat} {p1 p2 p3 : Pos} (he : PE X e te) (hK : X.K = K := by rfl) : PE X (.Subscript e (.Slice none none (some (.UnaryOp .USub (.Constant (.int 1) k p1) p2)) p3) pos) (tRevU K te) := hK ▸ pe_revU he
theorem k_pg {k n : Nat} {tp : TGs} (h : PGs X es tp) (hc : X.calm = true := by rfl) (hK : X.K = K := by rfl) (hn : (assignEach es X.env).length = n := by rfl) (hst : (assignEach es X.env).findIdx? (·.1) = none := by rfl) : PG X (.Tuple es k pos) (gTup K n tp) := hK ▸ pg_tup hc h hn hst
theorem k_star {sp : Pos} (he : PE X e te) (hr : PA X es t) (hK : X.K = K := by rfl) (hs : starEach (.Starred e sp :: es) X.env = (true, eval e X.env) :: starEach es X.env := by rfl) : PA X (.Starred e sp :: es) (StX.tStar K te t) := hK ▸ StX.pa_star he hr hs
abbrev rJoin (K : PySem.W.Frag) : V → List V → Hp → VK → Prop := fun x xs H Q => ∃ a p, ∃ ys : List Str, x = .str a ∧ xs = [.ref p] ∧ (SqL K H p (ys.map V.str) ∨ SqT K H p (ys.map V.str)) ∧ (ys.map (·.length)).sum + ys.length * a.length ≤ 16777216 ∧ Q (.str (Txt.join a ys)) H
theorem k_join (ho : PE X o to) (he : PE X e te) (hK : X.K = K := by rfl) (hs : starEach [e] X.env = [(false, eval e X.env)] := by rfl) (hbase : attributeBase o "join" X.env (eval o X.env) = eval o X.env := by rfl) (hline : (apos.endLine == pos.line) = true := by rfl) :
    PE X (.Call (.Attribute o "join" apos) [e] [] pos) (tM1 (rJoin K) to te) := hK ▸ pe_join ho he hs hbase hline
theorem k_fld {f : Str} (he : PE X e te) (hK : X.K = K := by rfl) (hb : attributeBase e f X.env (eval e X.env) = eval e X.env := by rfl) : PE X (.Attribute e f pos) (tFld K te f) := hK ▸ pe_fld he hb
theorem k_bm {name : Str} {T id : String} {r : V → List V → Hp → VK → Prop} (pa : PlainAttrs T) (slot : Slot T name id) (hty : typeOf (.builtin id) = pure (.type "method_descriptor")) (hm : MtR X id r) (ho : PE X o to) (ha : PA X (e :: es) t) (hK : X.K = K := by rfl)
    (hbase : attributeBase o name X.env (eval o X.env) = eval o X.env := by rfl)
    (hfew : ((backTo cpos (starEach (e :: es) X.env)).all (fun x => !x.1) && (backToKw cpos (keywordEach [] X.env)).all (fun x => x.1.isSome)
      && decide ((e :: es).length + ([] : List Keyword).length + (if ([] : List Keyword).isEmpty then 0 else 1) < 30)) = true := by rfl)
    (hline : (apos.endLine == cpos.line) = true := by rfl) (hs : starEach (e :: es) X.env = (false, eval e X.env) :: starEach es X.env := by rfl) (hplain : (backTo cpos (starEach es X.env)).any (·.1) = false := by rfl) :
    PE X (.Call (.Attribute o name apos) (e :: es) [] cpos) (tBM K T r to t) := hK ▸ pe_bm pa slot hty hm ho ha hbase hfew hline hs hplain
end
end G
set_option Elab.async false
set_option linter.all false
set_option maxRecDepth 100000
set_option maxHeartbeats 4000000
/-! The rules over data, part i: None, sequences of either kind, methods, texts, fields. -/
namespace G
open PySem PySem.Spec PyProof.Rows L2 PySem.W
/-- the first place of a in xs -/
def idxB {α : Type} [DecidableEq α] (a : α) (xs : List α) : Nat := @List.idxOf α instBEqOfDecidableEq a xs
theorem cutL_take {α : Type} {xs : List α} {n : Nat} : cutL xs none (some (n : Int)) = xs.take n := by
  unfold cutL
  rw [HT.sIx_none, HT.sIx_nat, List.drop_zero, Nat.sub_zero]
  rcases Nat.le_total n xs.length with h | h
  · rw [Nat.min_eq_left h]
  · rw [Nat.min_eq_right h, List.take_of_length_le (Nat.le_refl _), List.take_of_length_le h]
theorem cutL_drop {α : Type} {xs : List α} {n : Nat} : cutL xs (some (n : Int)) none = xs.drop n := by
  unfold cutL
  rw [HT.sIx_none, HT.sIx_nat]
  rcases Nat.le_total n xs.length with h | h
  · rw [Nat.min_eq_left h, List.take_of_length_le (by rw [List.length_drop]; exact Nat.le_refl _)]
  · rw [Nat.min_eq_right h, List.drop_of_length_le (Nat.le_refl _), List.drop_of_length_le h, List.take_nil]
theorem cutL_1 {α : Type} {xs : List α} : cutL xs none (some 1) = xs.take 1 := cutL_take (n := 1)
theorem cutL_1d {α : Type} {xs : List α} : cutL xs (some 1) none = xs.drop 1 := cutL_drop (n := 1)
section
variable {K : PySem.W.Frag} {B : Bs} {g : Slots} {L : Ls} {te t1 t2 t3 : TE} {tt tu : TT} {ta : TA} {t u w : Sl}
variable {α β : Type} {_ : DecidableEq α} {_ : Datum α} {_ : DecidableEq β} {_ : Datum β}
theorem y_isN {c : Bool} (h1 : YL B g L t1 t) (h : ∀ v H, t.p v H → decide (v = V.non) = c) : Y B g L (tOp (fun x y H Q => y = .non ∧ Q (.bl (decide (x = .non))) H) t1 (tC .non)) (Is K c) :=
  fun s H a Q k => h1 s H a _ fun v H1 e j p => ⟨rfl, by rw [h v _ p]; exact k _ H1 e j (rp_bl _)⟩
theorem y_notN {c : Bool} (h1 : YL B g L t1 t) (h : ∀ v H, t.p v H → decide (v = V.non) = c) : Y B g L (tOp (fun x y H Q => y = .non ∧ Q (.bl (!decide (x = .non))) H) t1 (tC .non)) (Is K (!c)) :=
  fun s H a Q k => h1 s H a _ fun v H1 e j p => ⟨rfl, by rw [h v _ p]; exact k _ H1 e j (rp_bl _)⟩
/-- what is no None -/
theorem non_int {i : Int} {v : V} {H : Hp} (h : (Is K i).p v H) : decide (v = V.non) = false := by rw [int_rp h]; rfl
theorem non_pair {x : α} {y : β} {v : V} {H : Hp} (h : (Is K (x, y)).p v H) : decide (v = V.non) = false := by
  obtain ⟨a, w, z, rfl, _⟩ := pair_rp h
  rfl
theorem non_tup {xs : List α} {v : V} {H : Hp} (h : (Is K (Tup.mk xs)).p v H) : decide (v = V.non) = false := by
  obtain ⟨a, w, rfl, _⟩ := tup_rp h
  rfl
theorem non_vl {v : V} {H : Hp} (h : (Vl V.non).p v H) : decide (v = V.non) = true := by
  have e : v = .non := h
  rw [e]; rfl
/-- list or tuple -/
theorem y_lenQ {b : Bool} {xs : List α} (h : YL B g L te (IsQ K b xs)) : Y B g L (tCB (rLenQ K) (tCons te tNil)) (Is K (xs.length : Int)) := by
  cases b
  · exact y_lenL h
  · exact y_lenU h
theorem y_ixQ {b : Bool} {xs : List α} {i : Int} {x : α} (h1 : Y B g L t1 (IsQ K b xs)) (h2 : YL B g L t2 (Is K i)) (hx : atI xs i = some x) : Y B g L (tOp (rIx K) t1 t2) (Is K x) := fun s H a Q k => by
  cases b
  · exact h1 s H a _ fun v H1 e1 j1 p1 => h2 s H1 (a.step e1 j1) _ fun y H2 e2 j2 p2 => by
      obtain ⟨b, vs, rfl, hs, hv⟩ := lst_rp (Rp.same ((a.step e1 j1).hd.same e2) p1)
      obtain ⟨w, hw, rw'⟩ := atI_rel hv hx
      exact .inl ⟨b, vs, i, w, rfl, int_rp p2, vw_same.seq hs, hw, k _ H2 (e1.trans e2) j2 rw'⟩
  · exact h1 s H a _ fun v H1 e1 j1 p1 => h2 s H1 (a.step e1 j1) _ fun y H2 e2 j2 p2 => by
      obtain ⟨b, vs, rfl, hs, hv⟩ := tup_rp (Rp.same ((a.step e1 j1).hd.same e2) p1)
      obtain ⟨w, hw, rw'⟩ := atI_rel hv hx
      exact .inr (.inl ⟨b, vs, i, w, rfl, int_rp p2, sameT vw_same hs, hw, k _ H2 (e1.trans e2) j2 rw'⟩)
/-! ### methods -/
theorem y_indexT {xs : List α} {x : α} (h1 : YL B g L t1 (Is K xs)) (h2 : YL B g L t2 (Is K x)) (hz : xs.length ≤ sizeLine) (hm : x ∈ xs) : Y B g L (tBM K "list" (rIndexT K α) t1 (tCons t2 tNil)) (Is K (idxB x xs : Int)) :=
  fun s H a Q k => h1 s H a _ fun v H1 e1 j1 p1 => by
    have p1' : Rp K H1 v xs := Rp.same lw_same p1
    obtain ⟨b, vs, rfl, hs, hv⟩ := lst_rp p1'
    exact ⟨Or.inl ⟨rfl, _, hs⟩, h2 s H1 (a.step e1 j1) _ fun y H2 e2 j2 p2 => ⟨y, x, xs, rfl, Rp.same lw_same (Rp.same (Hd.lsame e2) p1), Rp.same lw_same p2, hz, hm, k _ H2 (e1.trans e2) j2 (rp_int _)⟩⟩
theorem y_count {xs : List α} {x : α} (h1 : YL B g L t1 (Is K xs)) (h2 : YL B g L t2 (Is K x)) : Y B g L (tBM K "list" (rCountT K α) t1 (tCons t2 tNil)) (Is K (xs.countP (fun y => decide (y = x)) : Int)) :=
  fun s H a Q k => h1 s H a _ fun v H1 e1 j1 p1 => by
    have p1' : Rp K H1 v xs := Rp.same lw_same p1
    obtain ⟨b, vs, rfl, hs, hv⟩ := lst_rp p1'
    exact ⟨Or.inl ⟨rfl, _, hs⟩, h2 s H1 (a.step e1 j1) _ fun y H2 e2 j2 p2 => ⟨y, x, xs, rfl, Rp.same lw_same (Rp.same (Hd.lsame e2) p1), Rp.same lw_same p2, k _ H2 (e1.trans e2) j2 (rp_int _)⟩⟩
/-- a tuple of lines whose object has no dict -/
def LnT {α : Type} [DecidableEq α] [Datum α] (K : PySem.W.Frag) (xs : List α) : Sl := ⟨fun v H => Rp K H v (Tup.mk xs) ∧ K29.frzT H v, fun e ⟨h1, a, o, u, e1, e2, e3⟩ => ⟨h1.same e, a, o, u, e1, e _ _ e2, e3⟩⟩
theorem y_lnt {xs : List α} (h : Y B g L te (LnT K xs)) : Y B g L te (Is K (Tup.mk xs)) := h.imp fun _ _ p => p.1
theorem y_indexU {xs : List α} {x : α} (h1 : Y B g L t1 (LnT K xs)) (h2 : YL B g L t2 (Is K x)) (hm : x ∈ xs) : Y B g L (K29.tBMU (rIndexU K α) t1 (tCons t2 tNil)) (Is K (idxB x xs : Int)) :=
  fun s H a Q k => h1 s H a _ fun v H1 e1 j1 p1 => by
    obtain ⟨p1, b, o, u, e, e2, e3⟩ := p1
    exact ⟨⟨b, o, u, e, vw_same _ _ e2, e3⟩, h2 s H1 (a.step e1 j1) _ fun y H2 e2 j2 p2 => ⟨y, x, xs, rfl, Rp.same vw_same (Rp.same ((a.step e1 j1).hd.same e2) p1), Rp.same lw_same p2, hm, k _ H2 (e1.trans e2) j2 (rp_int _)⟩⟩
/-- tuple(list of tuples), the object known -/
theorem y_tupF {xs : List α} (h : YQ K B g L te xs) (ht : (xs.map Datum.toD).all isTupD = true) : Y B g L (tCB (rTupF K) (tCons te tNil)) (LnT K xs) := fun s H a Q k => h s H a _ fun v H1 e1 j1 p1 => by
  obtain ⟨b, vs, rfl, hs, hv⟩ := p1
  have a1 := a.hd.step e1 j1
  exact ⟨b, vs, rfl, Same.seq lw_same hs, fun p o hp ho => k _ _ (e1.trans (Le.laid hp)) (a1.ok.laid hp).j
    ⟨rp_tupT (.inl (.inr ⟨o, a1.at_new hp⟩)) ht (hv.same (a1.grow hp)), p, o, vs, rfl, a1.at_new hp, ho⟩⟩
theorem isTupD_pairs : ∀ xs : List (α × β), (xs.map Datum.toD).all isTupD = true
  | [] => rfl
  | _ :: xs => by rw [List.map_cons, List.all_cons, isTupD_pairs xs]; rfl
/-! ### texts -/
theorem y_join {x : Str} {ys : List Str} (h1 : YL B g L t1 (Is K x)) (h2 : YL B g L t2 (Is K ys)) (hz : (ys.map (·.length)).sum + ys.length * x.length ≤ 16777216) : Y B g L (tM1 (rJoin K) t1 t2) (Is K (Txt.join x ys)) :=
  fun s H a Q k => h1 s H a _ fun v H1 e1 j1 p1 => ⟨⟨x, str_rp p1⟩, h2 s H1 (a.step e1 j1) _ fun y H2 e2 j2 p2 => by
    obtain ⟨b, vs, rfl, hs, hv⟩ := lst_rp (Rp.same lw_same p2)
    rw [strs_rp hv] at hs
    exact ⟨x, b, ys, str_rp p1, rfl, .inl hs, hz, k _ H2 (e1.trans e2) j2 (rp_str _)⟩⟩
theorem y_joinU {x : Str} {ys : List Str} (h1 : YL B g L t1 (Is K x)) (h2 : YL B g L t2 (Is K (Tup.mk ys))) (hz : (ys.map (·.length)).sum + ys.length * x.length ≤ 16777216) : Y B g L (tM1 (rJoin K) t1 t2) (Is K (Txt.join x ys)) :=
  fun s H a Q k => h1 s H a _ fun v H1 e1 j1 p1 => ⟨⟨x, str_rp p1⟩, h2 s H1 (a.step e1 j1) _ fun y H2 e2 j2 p2 => by
    obtain ⟨b, vs, rfl, hs, hv⟩ := tup_rp (Rp.same lw_same p2)
    rw [strs_rp hv] at hs
    exact ⟨x, b, ys, str_rp p1, rfl, .inr hs, hz, k _ H2 (e1.trans e2) j2 (rp_str _)⟩⟩
theorem y_joinE {x : Str} {A : List Str → Prop} (h1 : YL B g L t1 (Is K x)) (h2 : YL B g L t2 (Ex K A)) (hz : ∀ ys, A ys → (ys.map (·.length)).sum + ys.length * x.length ≤ 16777216) : Y B g L (tM1 (rJoin K) t1 t2) (Ex K fun z => ∃ ys, A ys ∧ z = Txt.join x ys) :=
  fun s H a Q k => h1 s H a _ fun v H1 e1 j1 p1 => ⟨⟨x, str_rp p1⟩, h2 s H1 (a.step e1 j1) _ fun y H2 e2 j2 p2 => by
    obtain ⟨ys, ha, p2⟩ := p2
    obtain ⟨b, vs, rfl, hs, hv⟩ := lst_rp (Rp.same lw_same p2)
    rw [strs_rp hv] at hs
    exact ⟨x, b, ys, str_rp p1, rfl, .inl hs, hz ys ha, k _ H2 (e1.trans e2) j2 ⟨_, ⟨ys, ha, rfl⟩, rp_str _⟩⟩⟩
theorem yf_split {x z : Str} (h1 : YL B g L t1 (Is K x)) (h2 : YL B g L t2 (Is K z)) (hz : (z.length == 0) = false) (hx : x.length + 2 ≤ sizeLine) :
    YF K B g L (tM1 (fun x xs H Q => ∃ a b, x = .str a ∧ xs = [.str b] ∧ (b.length == 0) = false ∧ a.length + 2 ≤ sizeLine ∧ rNewStrs (Txt.split a b) H Q) t1 t2) (· = Txt.split x z) := fun s H a Q k =>
  h1 s H a _ fun v H1 e1 j1 p1 => ⟨⟨x, str_rp p1⟩, h2 s H1 (a.step e1 j1) _ fun y H2 e2 j2 p2 => ⟨x, z, str_rp p1, by rw [str_rp p2], hz, hx, fun p hp => yf_mk (R := (· = Txt.split x z)) a (e1.trans e2) j2 (rp_strs _) rfl k p hp⟩⟩
theorem y_inSign {c : Nat} {z : Str} (h1 : YL B g L t1 (Is K (⟨#[c]⟩ : Str))) (h2 : YL B g L t2 (Is K z)) : Y B g L (tOp (fun x y H Q => ∃ (c : Nat) (z : Str), x = .str ⟨#[c]⟩ ∧ y = .str z ∧ Q (.bl (decide (c ∈ z.cps.toList))) H) t1 t2) (Is K (decide (c ∈ z.cps.toList))) :=
  y_bin h1 h2 fun v x H Q p1 p2 q => ⟨c, z, str_rp p1, str_rp p2, q _ fun _ => rp_bl _⟩
theorem yi_str {z : Str} (h : Y B g L te (Is K z)) : YI K B g L (iStr te) (z.cps.toList.map fun c => (⟨#[c]⟩ : Str)) := fun s H a R k => h s H a _ fun v H1 e j p => ⟨z, str_rp p, k _ _ H1 e j wk_str trivial⟩
end
end G
set_option Elab.async false
set_option linter.all false
set_option maxRecDepth 100000
set_option maxHeartbeats 4000000
/-! The rules over data, part j: dicts of counts by truth values. -/
namespace G
open PySem PySem.Spec PyProof.Rows L2 PySem.W
def bI (kvs : List (Bool × Int)) : List (Bool × V) := kvs.map fun p => (p.1, .int p.2)
def DB (P : Program) (w : World) (kvs : List (Bool × Int)) : Sl := ⟨fun v H => ∃ d od, v = .ref d ∧ H d = some (.frz od (dB P w d (bI kvs))), fun e ⟨d, od, h1, h2⟩ => ⟨d, od, h1, e _ _ h2⟩⟩
section
variable {P : Program} {w : World} {K : PySem.W.Frag} {B : Bs} {g : Slots} {L : Ls} {te tk tv : TE} {tt : TT} {t u : Sl}
theorem wk_itemsB {d : Addr} {od : Obj} {kvs : List (Bool × Int)} : Wk K (ItB P w d od (bI kvs)) kvs (fun H _ => H d = some (.frz od (dB P w d (bI kvs)))) where
  mono := fun e _ q => e _ _ q
  go := fun i H N hi q => walk_itemsB.goes i H (by unfold bI; rw [List.length_map]; exact hi) q
  stop := fun H N q => by
    have := walk_itemsB.stops H q
    unfold bI at this
    rw [List.length_map] at this
    exact this
  yld := fun A i H v H' x av q hx y => by
    have hi : i < (bI kvs).length := by unfold bI; rw [List.length_map]; exact (List.getElem?_eq_some_iff.mp hx).1
    obtain ⟨T, a, b, e1, e2, e3, e4, e5⟩ := walk_itemsB.yields i H v H' hi q y
    simp only [bI, List.getElem?_map, hx, Option.map_some] at e4 e5
    cases e4
    cases e5
    exact pair_yld (x := x.1) (y := x.2) av e2 e1 e3 (rp_bl _) (rp_int _)
theorem yi_itemsB {kvs : List (Bool × Int)} (h : Y B g L te (DB P w kvs)) : YI K B g L (iItemsB P w te) kvs := fun s H a R k => h s H a _ fun v H1 e j p => by
  obtain ⟨d, od, e1, e2⟩ := p
  exact ⟨d, od, _, e1, vw_same _ _ e2, k _ _ H1 e j wk_itemsB e2⟩
theorem y_dispB {b : Bool} {i : Int} (h1 : ∀ D, Y (B.add D) g L tk (Is K b)) (h2 : ∀ D, Y (B.add D) g L tv (Is K i)) : Y B g L (tDispB P w tk tv) (DB P w [(b, i)]) := fun s H a Q k p hp => by
  have hm : p ∉ B.W.M := fun z => a.hd.ok.av p (a.hd.ok.sub p z) hp
  have a0 := a.addA (o := dB P w p []) hp
  refine h1 p s _ a0 _ fun v H1 e1 j1 p1 => h2 p s H1 (a0.step e1 j1) _ fun x H2 e2 j2 p2 => ⟨b, bl_rp p1, e2 _ _ hm (e1 _ _ hm upd_same), fun od => ?_⟩
  rw [int_rp p2]
  have j3 : B.W.J (upd H2 p (.frz od (dB P w p [(b, .int i)]))) := B.W.jd (fun c hc => upd_ne fun z => hm (by rw [← z]; exact hc)) j2
  have nA : p ∉ L.map (·.1) ++ B.A := a.hd.fresh hp
  refine k _ _ (fun c o hc q => ?_) j3 ⟨p, od, rfl, by unfold vw; rw [cut_out nA]; exact upd_same⟩
  have hcp : c ≠ p := fun z => by rw [z, hp] at q; cases q
  rw [upd_ne hcp]
  exact (e1.trans e2) c o hc (by rw [upd_ne hcp]; exact q)
/-- the state within: the dict being made stands at D -/
structure MkB (P : Program) (w : World) (B : Bs) (g : Slots) (L : Ls) (s : L2.St) (D : Addr) (kvs : List (Bool × Int)) (H : Hp) : Prop where
  at_ : At (B.add D) g L s H
  dct : H D = some (dB P w D (bI kvs))
theorem putB {kvs : List (Bool × Int)} {k : Bool} {i : Int} (h : k ∉ kvs.map (·.1)) : putK (bI kvs) k (.int i) = bI (kvs ++ [(k, i)]) := by
  have e : valV (bI kvs) k = none := by
    unfold valV
    have : (bI kvs).find? (fun kv => decide (kv.1 = k)) = none := List.find?_eq_none.mpr fun x hx => by
      unfold bI at hx
      obtain ⟨q, hq, rfl⟩ := List.mem_map.mp hx
      simp only [decide_eq_true_eq]
      exact fun z => h (List.mem_map.mpr ⟨q, hq, z⟩)
    rw [this]; rfl
  rw [putK_new _ e]
  unfold bI
  rw [List.map_append]; rfl
/-- {x: f x for x in xs} -/
theorem y_dcB {wi : TI} {gt : TG} {vs : List Nat} {xs : List Bool} {us : Bool → List (Nat × Sl)} {f : Bool → Int} (hi : YIL K B g L wi xs) (hz : xs.length ≤ sizeLine) (hnd : xs.Nodup)
    (hg : ∀ D x, x ∈ xs → YG (B.add D) L gt (Is K x) (us x)) (hu : ∀ x, x ∈ xs → ∀ i, i ∈ (us x).map (·.1) → i ∈ vs)
    (hk : ∀ D x, x ∈ xs → Y (B.add D) (setg (wipeg g vs) (us x)) L tk (Is K x)) (hv : ∀ D x, x ∈ xs → Y (B.add D) (setg (wipeg g vs) (us x)) L tv (Is K (f x))) :
    Y B g L (tDcB P w wi gt tYes tk tv vs) (DB P w (xs.map fun x => (x, f x))) := fun s H a Q k =>
  hi s H a _ fun J S H1 e1 j1 wk q D hD => by
    have hDM : D ∉ B.W.M := fun z => B.W.jm j1 D z hD
    have h0 : B.H0 D = none := (a.step e1 j1).hd.h0 hD
    have a1 : At (B.add D) g L s (upd H1 D (dB P w D [])) := (a.step e1 j1).addA hD
    have S1 : S (cut (D :: B.W.M) (upd H1 D (dB P w D []))) (vw (B.add D) L (upd H1 D (dB P w D []))) := wk.mono (fun b o h => by
      obtain ⟨q1, q2⟩ := cut_of h
      have hb : b ≠ D := ne_of_none q2 hD
      rw [cut_out fun z => (List.mem_cons.mp z).elim hb q1, upd_ne hb]; exact q2) (vw_add (a.step e1 j1).hd hD (Le.laid hD)) q
    refine ⟨fun i m H2 => m = xs.length - i ∧ i ≤ xs.length ∧ MkB P w B g L s D ((xs.take i).map fun x => (x, f x)) H2 ∧ Le (D :: B.W.M) (upd H1 D (dB P w D [])) H2 ∧ B.W.J H2,
      ⟨xs.length, by simp, Nat.zero_le _, ⟨a1, upd_same⟩, Le.refl _ _, a1.hd.ok.j⟩, ?_⟩
    rintro i m H2 ⟨rfl, hle, m2, e2, j2⟩
    have hS2 : S (cut (D :: B.W.M) H2) (vw (B.add D) L H2) := wk.mono (cutc_step e2) (vw_cons a1.hd e2) S1
    by_cases hlt : i < xs.length
    · refine .inr ⟨wk.go i H2 _ hlt (wk.mono cut_same (Same.refl _) hS2), fun H' => MkB P w B g L s D ((xs.take (i + 1)).map fun x => (x, f x)) H' ∧ Le (D :: B.W.M) (upd H1 D (dB P w D [])) H' ∧ B.W.J H',
        fun H' p => ⟨xs.length - (i + 1), by omega, rfl, hlt, p⟩, fun v H' y => ?_⟩
      have hx : xs[i]? = some xs[i] := List.getElem?_eq_getElem hlt
      have hm : xs[i] ∈ xs := List.getElem_mem hlt
      have av : ∀ a, a ∈ L.map (·.1) ++ (B.add D).A → H2 a ≠ none := m2.at_.hd.full.av
      obtain ⟨kp, r⟩ := wk.yld (L.map (·.1) ++ (B.add D).A) i H2 v H' _ av (wk.mono cut_same (Same.refl _) hS2) hx y
      have e3 : Le B.W.M H2 H' := fun b o _ q => by rw [kp b (by rw [q]; exact fun z => by cases z)]; exact q
      have j3 : B.W.J H' := B.W.jd (fun b hb => kp b (B.W.jm j2 b hb)) j2
      have a3 := m2.at_.step (B := B.add D) e3 j3
      have d3 : H' D = some (dB P w D (bI ((xs.take i).map fun x => (x, f x)))) := e3 _ _ hDM m2.dct
      have tk' : xs.take (i + 1) = xs.take i ++ [xs[i]] := List.take_succ_eq_append_getElem hlt
      refine hg D _ hm (wipe s vs) H' v a3.hd r _ fun ws pw => ⟨(sets_out (hu _ hm)).trans wipe_wipe, ?_⟩
      have a4 : At (B.add D) (setg (wipeg g vs) (us xs[i])) L (sets (wipe s vs) ((us xs[i]).map (·.1)) ws) H' := ⟨a3.hd, Sg.sets a3.sg.wipe pw⟩
      simp only [tYes, ↓reduceIte]
      refine hk D _ hm _ H' a4 _ fun y5 H5 e5 j5 p5 => hv D _ hm _ H5 (a4.step (B := B.add D) e5 j5) _ fun z H6 e6 j6 p6 => ?_
      have a6 := (a3.step (B := B.add D) e5 j5).step (B := B.add D) e6 j6
      have d6 : H6 D = some (dB P w D (bI ((xs.take i).map fun x => (x, f x)))) := e6 _ _ hDM (e5 _ _ hDM d3)
      refine ⟨_, xs[i], bl_rp p5, d6, ?_, ?_, ?_, ?_⟩
      · unfold bI
        rw [List.length_map, List.length_map, List.length_take]
        omega
      · refine ⟨a6.poke (B := B.add D) List.mem_cons_self hDM h0, ?_⟩
        have hn : xs[i] ∉ ((xs.take i).map fun x => (x, f x)).map (·.1) := by
          rw [List.map_map]
          intro z
          obtain ⟨c, hc, ec⟩ := List.mem_map.mp z
          have ec' : c = xs[i] := ec
          rw [ec'] at hc
          obtain ⟨j, hj⟩ := List.mem_iff_getElem?.mp hc
          rw [List.getElem?_take] at hj
          split at hj
          · rename_i hji
            have hlt' : j < xs.length := by omega
            have e7 : xs[j] = xs[i] := (List.getElem?_eq_some_iff.mp hj).2
            have := (List.getElem_inj hnd).mp e7
            omega
          · cases hj
        rw [int_rp p6, putB hn, tk', List.map_append]
        exact upd_same
      · exact ((e2.trans e3.cons).trans (e5.trans e6).cons).trans Le.poke
      · exact B.W.jd (fun b hb => upd_ne fun z => hDM (by rw [← z]; exact hb)) j6
    · have e : i = xs.length := by omega
      subst e
      refine .inl ⟨wk.stop H2 _ (wk.mono cut_same (Same.refl _) hS2), _, m2.dct, fun od => ?_⟩
      have nA : D ∉ L.map (·.1) ++ B.A := (a.step e1 j1).hd.fresh hD
      refine k _ _ (fun c o hc q' => ?_) (B.W.jd (fun b hb => upd_ne fun z => hDM (by rw [← z]; exact hb)) j2) ⟨D, od, rfl, ?_⟩
      · have h1 := e1 c o hc q'
        have hcD : c ≠ D := fun z => by rw [z, hD] at h1; cases h1
        rw [upd_ne hcD]
        exact e2 c o (fun z => (List.mem_cons.mp z).elim hcD hc) (by rw [upd_ne hcD]; exact h1)
      · rw [List.take_length]
        unfold vw
        rw [cut_out nA]; exact upd_same
end
end G
set_option Elab.async false
set_option linter.all false
set_option maxRecDepth 100000
set_option maxHeartbeats 4000000
/-! The rules over data, part k: dict(zip(lines, values)), {line: value}. -/
namespace G
open PySem PySem.Spec PyProof.Rows L2 PySem.W
/-- the value that stands beside k -/
def lkZ {α : Type} : List (Str × Str) → List α → Str × Str → Option α
  | l :: ls, x :: xs, k => if l = k then some x else lkZ ls xs k
  | _, _, _ => none
section
variable {K : PySem.W.Frag} {B : Bs} {g : Slots} {L : Ls} {te tk tv : TE} {tt : TT} {ta : TA} {t u : Sl}
theorem keys_rp {H : Hp} : ∀ {vs : List V} {ls : List (Str × Str)}, RpA K H vs ls → ∃ ks : List (Addr × List Key), vs = ks.map (fun q => V.ref q.1) ∧ ks.map (·.2) = ls.map ky ∧ ∀ q, q ∈ ks → H q.1 = some (.tup (q.2.map kV))
  | [], [], _ => ⟨[], rfl, rfl, fun _ h => absurd h List.not_mem_nil⟩
  | [], _ :: _, h => by cases h
  | _ :: _, [], h => by cases h
  | v :: vs, l :: ls, h => by
    obtain ⟨ks, e1, e2, e3⟩ := keys_rp h.head.2
    obtain ⟨b, rfl, hb⟩ := key_rp h.head.1
    refine ⟨(b, ky l) :: ks, by rw [e1]; rfl, by rw [List.map_cons, List.map_cons, e2], fun q hq => ?_⟩
    rcases List.mem_cons.mp hq with z | z
    · rw [z]; exact hb
    · exact e3 q z
end
section
variable {α : Type} [DecidableEq α] [Datum α] {K : PySem.W.Frag}
theorem lkZ_rp {H : Hp} : ∀ (ls : List (Str × Str)) (us : List V) (xs : List α), RpA K H us xs → ∀ k, (lkZ ls xs k = none → valV ((ls.map ky).zip us) (ky k) = none) ∧ ∀ a, lkZ ls xs k = some a → ∃ v, valV ((ls.map ky).zip us) (ky k) = some v ∧ Rp K H v a
  | [], us, xs, h, k => ⟨fun _ => rfl, fun a e => by cases e⟩
  | l :: ls, [], [], h, k => ⟨fun _ => rfl, fun a e => by cases e⟩
  | l :: ls, [], _ :: _, h, k => by cases h
  | l :: ls, _ :: _, [], h, k => by cases h
  | l :: ls, u :: us, x :: xs, h, k => by
    have ih := lkZ_rp ls us xs h.head.2 k
    rw [List.map_cons, List.zip_cons_cons]
    by_cases e : l = k
    · subst e
      rw [valV_pos rfl]
      refine ⟨fun z => ?_, fun a z => ⟨u, rfl, ?_⟩⟩
      · unfold lkZ at z; rw [if_pos rfl] at z; cases z
      · unfold lkZ at z; rw [if_pos rfl] at z; cases z; exact h.head.1
    · rw [valV_neg fun z => e (ky_inj z)]
      unfold lkZ
      rw [if_neg e]
      exact ih
end
section
variable {K : PySem.W.Frag} {B : Bs} {g : Slots} {L : Ls} {te tk tv : TE} {tt : TT} {ta : TA} {t u : Sl}
variable {α : Type} {_ : DecidableEq α} {_ : Datum α}
theorem y_dzip {b1 b2 : Bool} {ls : List (Str × Str)} {xs : List α} (h : YA B g L ta [IsQ K b1 ls, IsQ K b2 xs]) (hl : ls.length = xs.length) (hn : ls.Nodup) : Y B g L (tDZip K b1 b2 ta) (DT K (lkZ ls xs) xs.length) := fun s H a Q k => h s H a _ fun vs H1 e j p => by
  cases p with
  | cons p1 p =>
    cases p with
    | cons p2 p =>
      cases p
      obtain ⟨c, us, rfl, hs, hv⟩ := isq p1
      obtain ⟨d, ws, rfl, hs2, hv2⟩ := isq p2
      obtain ⟨ks, e1, e2, e3⟩ := keys_rp hv
      have a1 := a.hd.step e j
      have lk : ks.length = ls.length := by have := congrArg List.length e2; rw [List.length_map, List.length_map] at this; exact this
      subst e1
      refine ⟨c, d, ks, ws, rfl, sq_same vw_same hs, sq_same vw_same hs2, by rw [hv2.length, lk]; exact hl, fun q hq => vw_same _ _ (e3 q hq), ?_, fun q hq => ?_⟩
      · rw [e2]
        exact List.pairwise_map.mpr (hn.imp fun h z => h (ky_inj z))
      · refine k _ _ (e.trans (Le.laid hq)) (a1.ok.laid hq).j ⟨q, _, rfl, a1.at_new hq, _, rfl, ?_, fun k' => ?_⟩
        · rw [List.length_zip, hv2.length]; omega
        · rw [e2]
          exact lkZ_rp ls ws xs (hv2.same (a1.grow hq)) k'
theorem y_dispT {k0 : Str × Str} {b : α} (h1 : ∀ D, Y (B.add D) g L tk (Is K k0)) (h2 : ∀ D, Y (B.add D) g L tv (Is K b)) : Y B g L (tDispT tk tv) (DT K (fun j => if k0 = j then some b else none) 1) := fun s H a Q k p hp => by
  have hm : p ∉ B.W.M := fun z => a.hd.ok.av p (a.hd.ok.sub p z) hp
  have a0 := a.addA (o := .dT []) hp
  refine h1 p s _ a0 _ fun v H1 e1 j1 p1 => h2 p s H1 (a0.step e1 j1) _ fun x H2 e2 j2 p2 => ?_
  have p1' : Rp K (vw (B.add p) L H2) v k0 := Rp.same ((a0.step e1 j1).hd.same (B := B.add p) e2) p1
  obtain ⟨c, rfl, hc⟩ := key_rp p1'
  have dp : H2 p = some (.dT []) := e2 _ _ hm (e1 _ _ hm upd_same)
  refine ⟨c, ky k0, rfl, vw_same _ _ hc, dp, ?_⟩
  have nA : p ∉ L.map (·.1) ++ B.A := a.hd.fresh hp
  have hst : Same (vw (B.add p) L H2) (vw B L (upd H2 p (.dT [(ky k0, x)]))) := fun d o q => by
    rw [← vw_poke (D := p) (o := .dT [(ky k0, x)])] at q
    exact add_vw _ _ q
  refine k _ _ (fun d o hd q => ?_) (B.W.jd (fun d hd => upd_ne fun z => hm (by rw [← z]; exact hd)) j2) ⟨p, .dT [(ky k0, x)], rfl, by unfold vw; rw [cut_out nA]; exact upd_same, _, rfl, Nat.le_refl 1, fun j => ?_⟩
  · have hdp : d ≠ p := fun z => by rw [z, hp] at q; cases q
    rw [upd_ne hdp]
    exact (e1.trans e2) d o hd (by rw [upd_ne hdp]; exact q)
  · show ((if k0 = j then some b else none) = none → _) ∧ ∀ a, (if k0 = j then some b else none) = some a → _
    by_cases e : k0 = j
    · subst e
      rw [if_pos rfl, valV_pos rfl]
      exact ⟨(fun z => by cases z), fun a z => ⟨x, rfl, by cases z; exact Rp.same hst p2⟩⟩
    · rw [if_neg e, valV_neg fun z => e (ky_inj z)]
      exact ⟨fun _ => rfl, fun a z => by cases z⟩
end
section
variable {X : Cx} {e : Expr} {te : TE} {apos cpos : Pos} {elts : List Expr} {kk : Nat} {tpos : Pos}
theorem k_itemsB (P : Program) (w : World) (he : PE X e te) (hP : X.prog = P := by rfl) (hw : X.w = w := by rfl) (hbase : attributeBase e "items" X.env (eval e X.env) = eval e X.env := by rfl) (hline : (apos.endLine == cpos.line) = true := by rfl) :
    PI X (.Tuple elts kk tpos) (.Call (.Attribute e "items" apos) [] [] cpos) (iItemsB P w te) := hP ▸ hw ▸ pi_itemsB he hbase hline
end
end G
set_option Elab.async false
set_option linter.all false
set_option maxRecDepth 100000
set_option maxHeartbeats 4000000
local macro_rules | `(tactic| walk_at "y") => `(tactic| first
  | exact G.y_var rfl
  | exact G.y_int
  | exact G.y_bl
  | exact G.y_str
  | exact G.y_non
  | (with_reducible apply G.y_andV; rotate_left; (intro hy; walk_at "y"); rotate_right; walk_at "y")
  | (with_reducible apply G.y_orV; rotate_left; (intro hy; walk_at "y"); rotate_right; walk_at "y")
  | (with_reducible apply G.y_notV; walk_at "y")
  | (with_reducible apply G.y_chainI; rotate_left; rotate_left; walk_at "yl"; rotate_right; walk_at "yl"; rotate_right; walk_at "yl")
  | (with_reducible apply G.y_opI; rotate_left; walk_at "yl"; rotate_right; walk_at "yl")
  | (with_reducible apply G.y_opB; rotate_left; walk_at "yl"; rotate_right; walk_at "yl")
  | (with_reducible apply G.y_eqT; rotate_left; walk_at "yl"; rotate_right; walk_at "yl")
  | (with_reducible apply G.y_neT; rotate_left; walk_at "yl"; rotate_right; walk_at "yl")
  | (with_reducible apply G.y_neg; walk_at "yl")
  | (focus (with_reducible apply G.y_inT; rotate_left; walk_at "yl"; rotate_right; walk_at "yl"; done))
  | (focus (with_reducible apply G.y_inU; rotate_left; walk_at "yl"; rotate_right; walk_at "yl"; done))
  | (focus (with_reducible apply G.y_notInT; rotate_left; walk_at "yl"; rotate_right; walk_at "yl"; done))
  | (focus (with_reducible apply G.y_notInU; rotate_left; walk_at "yl"; rotate_right; walk_at "yl"; done))
  | (with_reducible apply G.y_ix0; walk_at "y")
  | (with_reducible apply G.y_ix1; walk_at "y")
  | (focus (with_reducible apply G.y_lenL; walk_at "yl"; done))
  | (focus (with_reducible apply G.y_lenU; walk_at "yl"; done))
  | (focus (with_reducible apply G.y_lenQ; walk_at "yl"; done))
  | (with_reducible apply G.y_pair; rotate_left; walk_at "y"; rotate_right; walk_at "y")
  | (with_reducible apply G.y_call1; rotate_left; (try exact trivial); rotate_right; walk_at "ya")
  | (with_reducible apply G.y_call2; rotate_left; (try exact trivial); rotate_right; walk_at "ya")
  | (with_reducible apply G.y_call3; rotate_left; (try exact trivial); rotate_right; walk_at "ya")
  | (with_reducible apply G.y_call4; rotate_left; (try exact trivial); rotate_right; walk_at "ya")
  | (with_reducible apply G.y_call5; rotate_left; (try exact trivial); rotate_right; walk_at "ya")
  | (with_reducible apply G.YF.dat; walk_at "yf")
  | skip)
local macro_rules | `(tactic| walk_at "yf") => `(tactic| first
  | (with_reducible apply G.yf_lst; rotate_left; (try (show _ ≤ PySem.sizeLine; decide)); rotate_right; walk_at "yi")
  | (with_reducible apply G.yf_slL; rotate_left; rotate_left; walk_at "yo"; rotate_right; walk_at "yo"; rotate_right; walk_at "yq")
  | (with_reducible apply G.yf_cat; rotate_left; walk_at "yq"; rotate_right; walk_at "yq")
  | (with_reducible apply G.yf_revL; walk_at "yq")
  | (with_reducible apply G.yf_listL; walk_at "yq"))
local macro_rules | `(tactic| walk_at "yi") => `(tactic| first
  | exact G.yi_nil
  | (with_reducible apply G.yi_cons; rotate_left; walk_at "yi"; rotate_right; walk_at "y"))
local macro_rules | `(tactic| walk_at "yo") => `(tactic| first
  | exact G.yo_no
  | (with_reducible apply G.yo_some; walk_at "yl"))
local macro_rules | `(tactic| walk_at "yl") => `(tactic| first
  | exact (G.yq_loc (j := 0) rfl rfl).loose
  | exact (G.yq_loc (j := 1) rfl rfl).loose
  | exact (G.yq_loc (j := 2) rfl rfl).loose
  | (with_reducible apply G.Y.loose; walk_at "y"))
local macro_rules | `(tactic| walk_at "yq") => `(tactic| first
  | exact G.yq_loc (j := 0) rfl rfl
  | exact G.yq_loc (j := 1) rfl rfl
  | exact G.yq_loc (j := 2) rfl rfl
  | (with_reducible apply G.Y.q; walk_at "y"))
local macro_rules | `(tactic| walk_at "ya") => `(tactic| first
  | exact G.ya_nil
  | (with_reducible apply G.ya_cons; rotate_left; walk_at "ya"; rotate_right; walk_at "y"))
local macro_rules | `(tactic| walk_at "yt") => `(tactic| first
  | exact G.yt_yes
  | (with_reducible apply G.yt_test; walk_at "yl")
  | (with_reducible apply G.yt_val; walk_at "yl")
  | (with_reducible apply G.yt_not; walk_at "yt")
  | (with_reducible apply G.yt_and; rotate_left; (intro hy; walk_at "yt"); rotate_right; walk_at "yt")
  | (with_reducible apply G.yt_or; rotate_left; (intro hy; walk_at "yt"); rotate_right; walk_at "yt")
  | skip)
/-! The program's defs: lines and rows. -/
namespace K29
open PySem PySem.Spec PyProof.Rows L2 G PySem.W
abbrev Ln := Str × Str
/-! ### what they compute -/
def beside (a b : Ln) : Bool := decide (a ≠ b) && (decide (a.1 = b.1) || decide (a.2 = b.2))
/-- a line that stands for none -/
def lnD : Ln := (Str.empty, Str.empty)
def later (lines : List Ln) (found : List Ln) (now : Ln) : List Ln := lines.filter fun l => beside l now && !inB l found
/-- the walk on, at most n steps -/
def walkO (lines : List Ln) : Nat → List Ln → Ln → List Ln
  | 0, found, _ => found
  | n + 1, found, now => match later lines found now with
    | [] => found
    | x :: _ => walkO lines n (found ++ [x]) x
def walk (lines : List Ln) (start : Ln) : List Ln := walkO lines lines.length [start] start
def isClosed (row : List Ln) : Bool := decide (2 < row.length) && beside (row.headD lnD) (row.getLastD lnD)
def rowOf (lines : List Ln) (first : Ln) : List Ln :=
  let row := walk lines first
  if isClosed row then row else
    let row2 := walk lines (row.getLastD lnD)
    if idxB (row2.headD lnD) lines ≤ idxB (row2.getLastD lnD) lines then row2 else row2.reverse
def rowsStep (lines : List Ln) (s : List (List Ln) × List Ln) (l : Ln) : List (List Ln) × List Ln := if l ∈ s.2 then s else (s.1 ++ [rowOf lines l], s.2 ++ rowOf lines l)
def rowsIn (lines : List Ln) : List (List Ln) := (lines.foldl (rowsStep lines) ([], [])).1
/-! plain laws of them that the walk asks for -/
theorem later_lt {lines found : List Ln} {now x : Ln} {r : List Ln} (h : later lines found now = x :: r) : (lines.filter fun l => decide (l ∉ found ++ [x])).length < (lines.filter fun l => decide (l ∉ found)).length := by
  have hx : x ∈ later lines found now := by rw [h]; exact List.mem_cons_self
  unfold later at hx
  rw [List.mem_filter] at hx
  obtain ⟨h1, h2⟩ := hx
  simp only [Bool.and_eq_true, Bool.not_eq_true', inB_false] at h2
  have go : ∀ ls : List Ln, (ls.filter fun l => decide (l ∉ found ++ [x])).length ≤ (ls.filter fun l => decide (l ∉ found)).length ∧ (x ∈ ls → (ls.filter fun l => decide (l ∉ found ++ [x])).length < (ls.filter fun l => decide (l ∉ found)).length) := by
    intro ls
    induction ls with
    | nil => exact ⟨Nat.le_refl _, fun z => nomatch z⟩
    | cons y ls ih =>
      by_cases hy : y ∈ found
      · have e1 : decide (y ∉ found ++ [x]) = false := by simp [hy]
        have e2 : decide (y ∉ found) = false := by simp [hy]
        rw [List.filter_cons, List.filter_cons, e1, e2]
        refine ⟨ih.1, fun z => ih.2 ?_⟩
        rcases List.mem_cons.mp z with z | z
        · exact absurd hy (by rw [← z]; exact h2.2)
        · exact z
      · have e2 : decide (y ∉ found) = true := by simp [hy]
        by_cases e : y = x
        · have e1 : decide (y ∉ found ++ [x]) = false := by simp [e]
          rw [List.filter_cons, List.filter_cons, e1, e2]
          simp only [Bool.false_eq_true, ↓reduceIte, List.length_cons]
          exact ⟨Nat.le_succ_of_le ih.1, fun _ => Nat.lt_succ_of_le ih.1⟩
        · have e1 : decide (y ∉ found ++ [x]) = true := by simp [hy, e]
          rw [List.filter_cons, List.filter_cons, e1, e2]
          simp only [↓reduceIte, List.length_cons]
          refine ⟨Nat.succ_le_succ ih.1, fun z => Nat.succ_lt_succ (ih.2 ?_)⟩
          rcases List.mem_cons.mp z with z | z
          · exact absurd z.symm e
          · exact z
  exact (go lines).2 h1
theorem getLast_at {α : Type} {xs : List α} {d : α} (h : xs ≠ []) : atI xs (-1) = some (xs.getLastD d) := by
  obtain ⟨ys, y, rfl⟩ : ∃ ys y, xs = ys ++ [y] := ⟨xs.dropLast, xs.getLast h, (List.dropLast_concat_getLast h).symm⟩
  rw [atI_last]
  simp
theorem head_at {α : Type} {xs : List α} {d : α} (h : xs ≠ []) : atI xs 0 = some (xs.headD d) := by
  cases xs with
  | nil => exact absurd rfl h
  | cons x xs => exact atI_nat (j := 0) rfl
/-- None or a line -/
def OL (K : PySem.W.Frag) (o : Option Ln) : Sl := match o with
  | none => Vl .non
  | some x => Is K x
section
variable {P : Program} {w : World} {K : PySem.W.Frag} {mg : Str → Option Value} {base : Heap}
def Nare_beside : List Str := ["one", "other"]
theorem scare_beside : FnScope Nare_beside ["one", "other"] (defScope sare_beside) := ⟨rfl, rfl, rfl, by decide +kernel, rfl, by decide +kernel, by decide +kernel⟩
abbrev spbeside (K : PySem.W.Frag) : Sp := sp2 (fun _ _ _ => True) (fun a : Ln => Is K a) (fun b : Ln => Is K b) fun a b => Is K (beside a b)
theorem ok_are_beside (M : Md K mg) : Cal P w K mg base 1 "are_beside" ["one", "other"] (spbeside K) := by
  obtain ⟨fd, F⟩ := M.dare_beside
  refine cal_mk F M.oare_beside scare_beside (fun _ _ _ _ _ _ us hl => match us, hl with | [_, _], _ => rfl) (fun _ => rfl) rfl fun cdv A outer s W A' H i Q E hr hp ok hQ => ?_
  obtain ⟨a, b⟩ := i
  have hu := hr.units
  have nd := scare_beside.nd
  refine ⟨_,     (pss_cons (ps_ret (pe_and (pe_cmpR (k_ne K (Str × Str) hu) (pv 0) (pv 1) (nomark _)) (pe_one (pe_or (pe_cmpR (k_eq K Str hu) (pe_ix (k_ixU K) (pv 0) pe_int (fun _ _ => rfl)) (pe_ix (k_ixU K) (pv 1) pe_int (fun _ _ => rfl)) (nomark _)) (pe_one (pe_cmpR (k_eq K Str hu) (pe_ix (k_ixU K) (pv 0) pe_int (fun _ _ => rfl)) (pe_ix (k_ixU K) (pv 1) pe_int (fun _ _ => rfl)) (nomark _)))))))
    pss_nil), ?_⟩
  dsimp only [cxOf, Cx.nox, Cx.wish]
  show YS ⟨W, A', H, []⟩ [some (Is K a), some (Is K b)] [] _ _
  refine ys_ret ?_ hQ
  show Y _ _ _ _ (Is K (beside a b))
  unfold beside
  walk_at "y"
def Nwalk_from : List Str := ["lines", "start", "found", "now", "later", "line"]
theorem scwalk_from : FnScope Nwalk_from ["lines", "start"] (defScope swalk_from) := ⟨rfl, rfl, rfl, by decide +kernel, rfl, by decide +kernel, by decide +kernel⟩
theorem drop_lt (lines found : List Ln) : (lines.filter fun l => decide (l ∉ found)).length ≤ lines.length := List.length_filter_le _ _
abbrev spwalk (K : PySem.W.Frag) : Sp := sp2 (fun _ ls _ => ls.length ≤ 100000) (fun ls : List Ln => Is K (Tup.mk ls)) (fun st : Ln => Is K st) fun ls st => Is K (walk ls st)
theorem ok_walk_from (M : Md K mg) (care_beside : Cal P w K mg base 1 "are_beside" ["one", "other"] (spbeside K)) : Cal P w K mg base 2 "walk_from" ["lines", "start"] (spwalk K) := by
  obtain ⟨fd, F⟩ := M.dwalk_from
  refine cal_mk F M.owalk_from scwalk_from (fun _ _ _ _ _ _ us hl => match us, hl with | [_, _], _ => rfl) (fun _ => rfl) rfl fun cdv A outer s W A' H i Q E hr1 hp ok hQ => ?_
  obtain ⟨ls, st⟩ := i
  have hz : ls.length ≤ 100000 := hp
  have hu := hr1.units
  have nd := scwalk_from.nd
  refine ⟨_,     (pss_cons (ps_asg (pe_tup (pa_cons (pe_lst (pa_cons (pv 1) pa_nil)) (pa_cons (pv 1) pa_nil))) (k_pg K (pgs_cons (pg_name (i := 2) nd rfl (Or.inr rfl)) (pgs_cons (pg_name (i := 3) nd rfl (Or.inr rfl)) pgs_nil))))
    (pss_cons (ps_while PassesOwn.never (pt_cmpR op_notN (pv 3) pe_non (nomark _))
      (pss_cons (ps_setLc (i := 4) rfl nd rfl rfl (sw_true rfl rfl rfl (by decide +kernel)) (k_tup K (pv 0)) (blkOk_by (N := Nwalk_from) (sc := defScope swalk_from) (own := [("line", 5)]) (by decide +kernel)) (fun _ _ _ _ _ => (pg_name (i := 5) nd rfl (Or.inl rfl))) (fun _ _ _ _ _ => (pts_one (PW.pt (pw_and (pt_val (pe_cal care_beside hr1 (by rfl) (pa_cons (pv 5) (pa_cons (pv 3) pa_nil)))) (pw_and1 (pt_cmpR (k_notIn K (Str × Str) hu) (pv 5) (pv 2) rfl)))))) (fun _ _ _ _ _ => (pv 5)))
      (pss_cons (ps_set (i := 3) nd rfl (Or.inr rfl) (pe_ifExp (pt_cmpR (k_ne K (List (Str × Str)) hu) (pv 4) (pe_lst pa_nil) (nomark _)) (pe_ix (k_ixL K) (pv 4) pe_int (fun _ _ => rfl)) pe_non))
      (pss_cons (ps_expr (k_bm K PySem.F.plainAttrs_list PySem.F.slot_list_extend PySem.F.type_list_extend (k_extend K) (pv 2) (pa_cons (pe_slice (k_slL K) (pv 4) po_none (po_some pe_int)) pa_nil)))
      pss_nil))))
    (pss_cons (ps_ret (pv 2))
    pss_nil))), ?_⟩
  dsimp only [cxOf, Cx.nox, Cx.wish]
  show YS ⟨W, A', H, []⟩ [some (Is K (Tup.mk ls)), some (Is K st), none, none, none, none] [] _ _
  refine ys_tup2 (O1 := oNew K (· = [st])) (O2 := oDat (Is K st)) (YF.o (yf_lst (yi_cons (y_var rfl) yi_nil) (by show 1 ≤ sizeLine; decide))) (fun u L1 o => Y.o (y_var rfl)) ?_
  rintro _ _ _ _ ⟨p, _, rfl, rfl, rfl⟩ ⟨rfl, rfl⟩
  refine ys_while (ι := List Ln × Option Ln) (cb := fun d => d.2.isSome) (fun d => d.1.length + (ls.filter fun l => decide (l ∉ d.1)).length ≤ ls.length + 1 ∧ match d.2 with
      | none => d.1 = walk ls st
      | some x => ∃ n, (ls.filter fun l => decide (l ∉ d.1)).length ≤ n ∧ walkO ls n d.1 x = walk ls st)
    (fun d => (ls.filter fun l => decide (l ∉ d.1)).length + if d.2.isSome then 1 else 0)
    (fun d => [some (Is K (Tup.mk ls)), some (Is K st), some (Vl (.ref p)), some (OL K d.2), none, none]) (fun d => [(p, LoL K d.1)])
    ⟨([st], some st), ⟨by have := drop_lt ls [st]; simp only [List.length_singleton]; omega, ls.length, drop_lt _ _, rfl⟩, Wk1.refl _, List.Sublist.refl _⟩ ?_ ?_ ?_
  · rintro ⟨found, now⟩ -
    refine YT.to (yt_test (K := K) (Y.loose (y_notN (c := !now.isSome) (Y.loose (y_var rfl)) ?_))) (Bool.not_not _)
    intro v H h
    cases now with
    | none => exact non_vl h
    | some x => exact non_pair h
  · rintro ⟨found, now⟩ ⟨h1, h2⟩ hc
    obtain ⟨x, rfl⟩ : ∃ x, now = some x := Option.isSome_iff_exists.mp hc
    obtain ⟨n, hn, hw⟩ := h2
    have hlz : (later ls found x).length ≤ ls.length := List.length_filter_le _ _
    have h1 : found.length + (ls.filter fun l => decide (l ∉ found)).length ≤ ls.length + 1 := h1
    have hn : (ls.filter fun l => decide (l ∉ found)).length ≤ n := hn
    have hw : walkO ls n found x = walk ls st := hw
    show YS _ [some (Is K (Tup.mk ls)), some (Is K st), some (Vl (.ref p)), some (Is K x), none, none] [(p, LoL K found)] _ _
    refine ys_setD (t := Is K (later ls found x)) (YF.dat (YF.to (yf_lc (us := fun y => [(5, Is K y)]) (c := fun l => beside l x && !inB l found) (f := id) (yi_tup (y_var rfl)).loose (by rw [sizeLine_eq]; omega) (fun D y _ => yg_name) (fun y _ i hi => by simpa using hi) (fun D y _ => ?_) (fun D y _ _ => y_var rfl)) (by unfold later; simp))) ?_
    · walk_at "yt"
    refine ys_setD (t := OL K (later ls found x).head?) (y_if (c := decide (later ls found x ≠ [])) (by walk_at "yt") (fun hne => ?_) fun he => ?_) ?_
    · have hne' : later ls found x ≠ [] := of_decide_eq_true hne
      obtain ⟨y, r, e⟩ : ∃ y r, later ls found x = y :: r := List.exists_cons_of_ne_nil hne'
      rw [e]
      show Y _ _ _ _ (Is K y)
      refine y_ixL (xs := y :: r) (Y.q (y_var (by rw [← e]; rfl))) (Y.loose y_int) (atI_nat (j := 0) rfl)
    · have he' : later ls found x = [] := by simpa using he
      rw [he']
      exact y_vl
    refine ys_extend (i := 2) (j := 0) (ys := (later ls found x).take 1) rfl rfl (Y.q (YF.dat (YF.to (xs := cutL (later ls found x) none (some 1)) (yf_slL (Y.q (y_var rfl)) yo_no (yo_some (K := K) (Y.loose y_int))) cutL_1))) (by rw [sizeLine_eq, List.length_take]; omega) ?_
    refine ys_next fun s H a => ⟨(found ++ (later ls found x).take 1, (later ls found x).head?), ?_, ?_, a.weak (.keep (.keep (.keep (.keep (.drop (.keep .nil))))))⟩
    · cases e : later ls found x with
      | nil =>
        refine ⟨by simpa using h1, ?_⟩
        show found ++ [] = walk ls st
        rw [List.append_nil, ← hw]
        cases n with
        | zero => rfl
        | succ n => unfold walkO; rw [e]
      | cons y r =>
        have l1 := later_lt e
        refine ⟨?_, ?_⟩
        · show (found ++ [y]).length + (ls.filter fun l => decide (l ∉ found ++ [y])).length ≤ ls.length + 1
          rw [List.length_append, List.length_singleton]
          omega
        · cases n with
          | zero => omega
          | succ n =>
            refine ⟨n, by show (ls.filter fun l => decide (l ∉ found ++ [y])).length ≤ n; omega, ?_⟩
            rw [← hw]
            conv => rhs; unfold walkO; rw [e]
            rfl
    · cases e : later ls found x with
      | nil =>
        show (ls.filter fun l => decide (l ∉ found ++ [])).length + 0 < (ls.filter fun l => decide (l ∉ found)).length + 1
        rw [List.append_nil]
        omega
      | cons y r =>
        have l1 := later_lt e
        show (ls.filter fun l => decide (l ∉ found ++ [y])).length + 1 < (ls.filter fun l => decide (l ∉ found)).length + 1
        omega
  · rintro ⟨found, now⟩ ⟨h1, h2⟩ hc
    have e : now = none := by
      cases now with
      | none => rfl
      | some x => cases hc
    subst e
    have h2' : found = walk ls st := h2
    subst h2'
    refine ys_free (L1 := []) (L2 := []) (p := p) (i := 2) rfl ?_
    exact ys_ret (t := Is K (walk ls st)) (y_var rfl) hQ
end
end K29
set_option Elab.async false
set_option linter.all false
set_option maxRecDepth 100000
set_option maxHeartbeats 4000000
/-! The program's defs: rows. -/
namespace K29
open PySem PySem.Spec PyProof.Rows L2 G PySem.W
section
variable {P : Program} {w : World} {K : PySem.W.Frag} {mg : Str → Option Value} {base : Heap}
def Nis_closed : List Str := ["row"]
theorem scis_closed : FnScope Nis_closed ["row"] (defScope sis_closed) := ⟨rfl, rfl, rfl, by decide +kernel, rfl, by decide +kernel, by decide +kernel⟩
abbrev spclosed (K : PySem.W.Frag) : Sp := sp1 (fun _ _ => True) (fun r : Bool × List Ln => IsQ K r.1 r.2) fun r => Is K (isClosed r.2)
theorem ok_is_closed (M : Md K mg) (care_beside : Cal P w K mg base 1 "are_beside" ["one", "other"] (spbeside K)) : Cal P w K mg base 2 "is_closed" ["row"] (spclosed K) := by
  obtain ⟨fd, F⟩ := M.dis_closed
  refine cal_mk F M.ois_closed scis_closed (fun _ _ _ _ _ _ us hl => match us, hl with | [_], _ => rfl) (fun _ => rfl) rfl fun cdv A outer s W A' H i Q E hr1 hp ok hQ => ?_
  obtain ⟨b, row⟩ := i
  have hu := hr1.units
  have nd := scis_closed.nd
  refine ⟨_,     (pss_cons (ps_ret (pe_and (pe_cmpR op_gt (pe_callB (k_len K) (by rfl) M.mlen PySem.boot_len (pa_cons (pv 0) pa_nil)) pe_int (nomark _)) (pe_one (pe_cal care_beside hr1 (by rfl) (pa_cons (pe_ix (k_ixQ K) (pv 0) pe_int (fun _ _ => rfl)) (pa_cons (pe_ix (k_ixQ K) (pv 0) (pe_un un_neg pe_int) (fun _ _ => rfl)) pa_nil))))))
    pss_nil), ?_⟩
  dsimp only [cxOf, Cx.nox, Cx.wish]
  show YS ⟨W, A', H, []⟩ [some (IsQ K b row)] [] _ _
  refine ys_ret ?_ hQ
  show Y _ _ _ _ (Is K (isClosed row))
  unfold isClosed
  have e : decide (2 < row.length) = decide ((2 : Int) < (row.length : Int)) := decide_eq_decide.mpr (by omega)
  rw [e]
  refine y_andV (y_opB (f := fun i j => decide (j < i)) (Y.loose (y_lenQ (Y.loose (y_var rfl)))) (Y.loose y_int)) fun h => ?_
  have hne : row ≠ [] := by
    intro z
    rw [z] at h
    simp at h
  refine y_call2 (x := row.headD lnD) (y := row.getLastD lnD) (ya_cons (y_ixQ (y_var rfl) (Y.loose y_int) (head_at hne)) (ya_cons (y_ixQ (y_var rfl) (Y.loose (y_neg (Y.loose y_int))) (getLast_at hne)) ya_nil)) trivial
theorem walkO_ne (lines : List Ln) : ∀ (n : Nat) (found : List Ln) (now : Ln), found ≠ [] → walkO lines n found now ≠ []
  | 0, found, _, h => h
  | n + 1, found, now, h => by
    unfold walkO
    split
    · exact h
    · exact walkO_ne lines n _ _ (by simp)
theorem walk_ne (lines : List Ln) (s : Ln) : walk lines s ≠ [] := walkO_ne lines _ _ _ (by simp)
theorem walkO_mem (lines : List Ln) : ∀ (n : Nat) (found : List Ln) (now : Ln), ∀ x, x ∈ walkO lines n found now → x ∈ found ∨ x ∈ lines
  | 0, _, _, x, h => .inl h
  | n + 1, found, now, x, h => by
    unfold walkO at h
    split at h
    · exact .inl h
    · rename_i y r e
      rcases walkO_mem lines n _ _ x h with q | q
      · rcases List.mem_append.mp q with q | q
        · exact .inl q
        · have ey : x = y := by simpa using q
          have : y ∈ later lines found now := by rw [e]; exact List.mem_cons_self
          rw [ey]
          exact .inr (List.mem_filter.mp this).1
      · exact .inr q
theorem walk_mem {lines : List Ln} {s : Ln} (h : s ∈ lines) : ∀ x, x ∈ walk lines s → x ∈ lines := fun x hx => (walkO_mem lines _ _ _ x hx).elim (fun z => by rw [List.mem_singleton.mp z]; exact h) id
theorem walkO_len (lines : List Ln) : ∀ (n : Nat) (found : List Ln) (now : Ln), (walkO lines n found now).length ≤ found.length + n
  | 0, _, _ => Nat.le_refl _
  | n + 1, found, now => by
    unfold walkO
    split
    · omega
    · have := walkO_len lines n (found ++ [‹_›]) ‹_›
      rename_i y r e
      have := walkO_len lines n (found ++ [y]) y
      rw [List.length_append, List.length_singleton] at this
      omega
theorem walk_len (lines : List Ln) (s : Ln) : (walk lines s).length ≤ lines.length + 1 := by
  have := walkO_len lines lines.length [s] s
  rw [List.length_singleton] at this
  unfold walk
  omega
theorem headD_mem {α : Type} {xs : List α} {d : α} (h : xs ≠ []) : xs.headD d ∈ xs := by
  cases xs with
  | nil => exact absurd rfl h
  | cons x xs => exact List.mem_cons_self
theorem lastD_mem {α : Type} {xs : List α} {d : α} (h : xs ≠ []) : xs.getLastD d ∈ xs := by
  rw [List.getLastD_eq_getLast?, List.getLast?_eq_some_getLast h]
  exact List.getLast_mem h
def Nrow_of : List Str := ["lines", "first", "row"]
theorem scrow_of : FnScope Nrow_of ["lines", "first"] (defScope srow_of) := ⟨rfl, rfl, rfl, by decide +kernel, rfl, by decide +kernel, by decide +kernel⟩
abbrev sprow_of (K : PySem.W.Frag) : Sp := sp2 (fun _ ls st => ls.length ≤ 100000 ∧ st ∈ ls) (fun ls : List Ln => LnT K ls) (fun st : Ln => Is K st) fun ls st => Is K (Tup.mk (rowOf ls st))
theorem ok_row_of (M : Md K mg) (cwalk_from : Cal P w K mg base 2 "walk_from" ["lines", "start"] (spwalk K)) (cis_closed : Cal P w K mg base 2 "is_closed" ["row"] (spclosed K)) : Cal P w K mg base 3 "row_of" ["lines", "first"] (sprow_of K) := by
  obtain ⟨fd, F⟩ := M.drow_of
  refine cal_mk F M.orow_of scrow_of (fun _ _ _ _ _ _ us hl => match us, hl with | [_, _], _ => rfl) (fun _ => rfl) rfl fun cdv A outer s W A' H i Q E hr2 hp ok hQ => ?_
  obtain ⟨ls, st⟩ := i
  have hz : ls.length ≤ 100000 := hp.1
  have hm : st ∈ ls := hp.2
  have hu := hr2.units
  have nd := scrow_of.nd
  refine ⟨_,     (pss_cons (ps_set (i := 2) nd rfl (Or.inl rfl) (pe_cal cwalk_from hr2 (by rfl) (pa_cons (pv 0) (pa_cons (pv 1) pa_nil))))
    (pss_cons (ps_if (pt_val (pe_cal cis_closed hr2 (by rfl) (pa_cons (pv 2) pa_nil)))
      (pss_cons (ps_ret (pe_callTy (k_tupOf K) (by rfl) M.mtuple (by decide +kernel) (pa_cons (pv 2) pa_nil)))
      pss_nil)
      pss_nil)
    (pss_cons (ps_set (i := 2) nd rfl (Or.inl rfl) (pe_cal cwalk_from hr2 (by rfl) (pa_cons (pv 0) (pa_cons (pe_ix (k_ixL K) (pv 2) (pe_un un_neg pe_int) (fun _ _ => rfl)) pa_nil))))
    (pss_cons (ps_ret (pe_callTy (k_tupOf K) (by rfl) M.mtuple (by decide +kernel) (pa_cons (pe_ifExp (pt_cmpR op_le (pe_bmU PySem.F.plainAttrs_tuple PySem.F.slot_tuple_index PySem.F.type_tuple_index (k_indexU K (Str × Str) hu) (pv 0) (pa_cons (pe_ix (k_ixL K) (pv 2) pe_int (fun _ _ => rfl)) pa_nil)) (pe_bmU PySem.F.plainAttrs_tuple PySem.F.slot_tuple_index PySem.F.type_tuple_index (k_indexU K (Str × Str) hu) (pv 0) (pa_cons (pe_ix (k_ixL K) (pv 2) (pe_un un_neg pe_int) (fun _ _ => rfl)) pa_nil)) (nomark _)) (pv 2) (k_revL K (pv 2))) pa_nil)))
    pss_nil)))), ?_⟩
  dsimp only [cxOf, Cx.nox, Cx.wish]
  show YS ⟨W, A', H, []⟩ [some (LnT K ls), some (Is K st), none] [] _ _
  refine ys_setD (t := Is K (walk ls st)) (y_call2 (x := ls) (y := st) (ya_cons (y_lnt (y_var rfl)) (ya_cons (y_var rfl) ya_nil)) hz) ?_
  refine ys_if (c := isClosed (walk ls st)) (yt_val (K := K) (Y.loose (y_call1 (x := (false, walk ls st)) (ya_cons (y_var rfl) ya_nil) trivial))) (fun hc => ?_) fun hc => ?_
  · refine ys_ret (t := Is K (Tup.mk (rowOf ls st))) ?_ hQ
    refine Y.to (y_tupL (Y.q (y_var rfl))) ?_
    unfold rowOf
    simp only [hc, ↓reduceIte]
  refine ys_then ?_
  refine ys_setD (t := Is K (walk ls ((walk ls st).getLastD lnD))) ?_ ?_
  · exact y_call2 (x := ls) (y := (walk ls st).getLastD lnD) (ya_cons (y_lnt (y_var rfl)) (ya_cons (y_ixL (Y.q (y_var rfl)) (Y.loose (y_neg (Y.loose y_int))) (getLast_at (walk_ne _ _))) ya_nil)) hz
  refine ys_ret (t := Is K (Tup.mk (rowOf ls st))) ?_ hQ
  have hl : (walk ls st).getLastD lnD ∈ ls := walk_mem hm _ (lastD_mem (walk_ne _ _))
  have hne := walk_ne ls ((walk ls st).getLastD lnD)
  have m1 : (walk ls ((walk ls st).getLastD lnD)).headD lnD ∈ ls := walk_mem hl _ (headD_mem hne)
  have m2 : (walk ls ((walk ls st).getLastD lnD)).getLastD lnD ∈ ls := walk_mem hl _ (lastD_mem hne)
  refine Y.to (y_tupL (Y.q (y_ifI (c := decide ((idxB ((walk ls ((walk ls st).getLastD lnD)).headD lnD) ls : Int) ≤ (idxB ((walk ls ((walk ls st).getLastD lnD)).getLastD lnD) ls : Int))) ?_ (fun _ => y_var rfl) fun _ => (yf_revL (Y.q (y_var rfl))).dat))) ?_
  · refine yt_test (K := K) (Y.loose (y_opB (f := fun i j => decide (i ≤ j)) (Y.loose (y_indexU (y_var rfl) (Y.loose (y_ixL (Y.q (y_var rfl)) (Y.loose y_int) (head_at hne))) m1)) (Y.loose (y_indexU (y_var rfl) (Y.loose (y_ixL (Y.q (y_var rfl)) (Y.loose (y_neg (Y.loose y_int))) (getLast_at hne))) m2))))
  · unfold rowOf
    simp only [hc, Bool.false_eq_true, ↓reduceIte, decide_eq_true_eq, Int.ofNat_le, Tup.mk.injEq]
theorem rowOf_len (ls : List Ln) (s : Ln) : (rowOf ls s).length ≤ ls.length + 1 := by
  unfold rowOf
  simp only
  split
  · exact walk_len _ _
  · split
    · exact walk_len _ _
    · rw [List.length_reverse]; exact walk_len _ _
/-- the lines met, as a dict -/
def metF (S : List Ln) : Ln → Option Bool := fun k => if k ∈ S then some true else none
theorem metF_put (S : List Ln) (k : Ln) : (fun j => if j = k then some true else metF S j) = metF (S ++ [k]) := by
  funext j
  unfold metF
  by_cases e : j = k
  · simp [e]
  · simp [e]
theorem rowsStep_len (ls : List Ln) : ∀ (xs : List Ln) (s : List (List Ln) × List Ln), (xs.foldl (rowsStep ls) s).1.length ≤ s.1.length + xs.length ∧ (xs.foldl (rowsStep ls) s).2.length ≤ s.2.length + xs.length * (ls.length + 1)
  | [], s => ⟨Nat.le_refl _, by rw [List.foldl_nil, List.length_nil, Nat.zero_mul]; exact Nat.le_refl _⟩
  | x :: xs, s => by
    obtain ⟨h1, h2⟩ := rowsStep_len ls xs (rowsStep ls s x)
    have q : (rowsStep ls s x).1.length ≤ s.1.length + 1 ∧ (rowsStep ls s x).2.length ≤ s.2.length + (ls.length + 1) := by
      unfold rowsStep
      have := rowOf_len ls x
      split
      · exact ⟨by omega, by omega⟩
      · rw [List.length_append, List.length_append, List.length_singleton]
        exact ⟨by omega, by omega⟩
    rw [List.foldl_cons, List.length_cons, Nat.succ_mul]
    exact ⟨by omega, by omega⟩
def Nrows_in : List Str := ["lines", "found", "met", "line", "row", "other"]
theorem scrows_in : FnScope Nrows_in ["lines"] (defScope srows_in) := ⟨rfl, rfl, rfl, by decide +kernel, rfl, by decide +kernel, by decide +kernel⟩
abbrev sprows_in (K : PySem.W.Frag) : Sp := sp1 (fun _ ls => ls.length ≤ 1000) (fun ls : List Ln => LnT K ls) fun ls => Is K (Tup.mk ((rowsIn ls).map Tup.mk))
theorem ok_rows_in (M : Md K mg) (crow_of : Cal P w K mg base 3 "row_of" ["lines", "first"] (sprow_of K)) : Cal P w K mg base 4 "rows_in" ["lines"] (sprows_in K) := by
  obtain ⟨fd, F⟩ := M.drows_in
  refine cal_mk F M.orows_in scrows_in (fun _ _ _ _ _ _ us hl => match us, hl with | [_], _ => rfl) (fun _ => rfl) rfl fun cdv A outer s W A' H ls Q E hr3 hp ok hQ => ?_
  have hz : ls.length ≤ 1000 := hp
  have hu := hr3.units
  have hu1 := hu_of hr3
  have nd := scrows_in.nd
  refine ⟨_,     (pss_cons (ps_par (i := 1) (j := 2) (by rfl) nd rfl rfl (by decide) rfl rfl (pa_cons (pe_lst pa_nil) (pa_cons pe_dnewT pa_nil)) (by rfl))
    (pss_cons (ps_for PassesOwn.never rfl (k_tup K (pv 0)) (pg_name (i := 3) nd rfl (Or.inl rfl))
      (pss_cons (ps_if (pt_cmp (pc_dnotin hu1 (pv 3) (pv 2)))
        (pss_cons (ps_set (i := 4) nd rfl (Or.inl rfl) (pe_cal crow_of hr3 (by rfl) (pa_cons (pv 0) (pa_cons (pv 3) pa_nil))))
        (pss_cons (ps_expr (k_bm K PySem.F.plainAttrs_list PySem.F.slot_list_append PySem.F.type_list_append mt_append (pv 1) (pa_cons (pv 4) pa_nil)))
        (pss_cons (ps_for PassesOwn.never rfl (k_tup K (pv 4)) (pg_name (i := 5) nd rfl (Or.inl rfl))
          (pss_cons (ps_dput hu1 (pv 2) (pv 5) pe_bl rfl)
          pss_nil))
        pss_nil)))
        pss_nil)
      pss_nil))
    (pss_cons (ps_ret (pe_callTy (k_tupOf K) (by rfl) M.mtuple (by decide +kernel) (pa_cons (pv 1) pa_nil)))
    pss_nil))), ?_⟩
  dsimp only [cxOf, Cx.nox, Cx.wish]
  show YS ⟨W, A', H, []⟩ [some (LnT K ls), none, none, none, none, none] [] _ _
  refine ys_par (O1 := oNew K (· = ([] : List (Tup Ln)))) (O2 := oLo (LoT K (fun _ => (none : Option Bool)) 0)) ?_ ?_ ?_
  · exact YF.o (yf_lst yi_nil (Nat.zero_le _))
  · exact fun u L1 _ => yo_dnewT
  rintro _ _ _ _ ⟨p, _, rfl, rfl, rfl⟩ ⟨q, rfl, rfl⟩
  refine ys_forB K (ι := List (List Ln) × List Ln) (xs := ls) (us := fun _ x => [(3, Is K x)]) (fun k d => d = (ls.take k).foldl (rowsStep ls) ([], []))
    (fun d => [some (LnT K ls), some (Vl (.ref p)), some (Vl (.ref q)), none, none, none]) (fun d => [(q, LoT K (metF d.2) d.2.length), (p, LoL K (d.1.map Tup.mk))]) ?_ ?_ ?_ ?_ ?_
  · exact yi_tup (y_lnt (y_var rfl))
  · refine ⟨([], []), rfl, Wk1.refl _, ?_⟩
    have e : metF [] = fun _ => none := by
      funext k
      unfold metF
      simp
    show List.Sublist [(q, LoT K (metF []) 0), (p, LoL K [])] _
    rw [e]
    exact List.Sublist.refl _
  · exact fun X d x hx => yg_name
  · rintro X i ⟨found, S⟩ x hx hd
    have hi : i < ls.length := (List.getElem?_eq_some_iff.mp hx).1
    have hxm : x ∈ ls := List.mem_of_getElem? hx
    have tk : (ls.take (i + 1)).foldl (rowsStep ls) ([], []) = rowsStep ls (found, S) x := by
      have e : ls[i] = x := (List.getElem?_eq_some_iff.mp hx).2
      rw [List.take_succ_eq_append_getElem hi, List.foldl_append, ← hd, e]
      rfl
    obtain ⟨l1, l2⟩ := rowsStep_len ls (ls.take i) ([], [])
    rw [← hd] at l1 l2
    have l1' : found.length ≤ 0 + (ls.take i).length := l1
    have l2' : S.length ≤ 0 + (ls.take i).length * (ls.length + 1) := l2
    have l3 : (ls.take i).length ≤ 1000 := by rw [List.length_take]; omega
    have l4 : S.length ≤ 1001000 := by
      have : (ls.take i).length * (ls.length + 1) ≤ 1000 * 1001 := Nat.mul_le_mul l3 (by omega)
      omega
    refine ys_if (c := !(metF S x).isSome) ?_ (fun hc => ?_) fun hc => ?_
    · exact yt_val (K := K) (Y.loose (y_dnotinT (Y.loose (y_var rfl)) (yd_loc (j := 0) rfl rfl)))
    · have hS : x ∉ S := by
        intro z
        unfold metF at hc
        rw [if_pos z] at hc
        cases hc
      refine ys_setD (t := Is K (Tup.mk (rowOf ls x))) ?_ ?_
      · exact y_call2 (x := ls) (y := x) (ya_cons (y_var rfl) (ya_cons (y_var rfl) ya_nil)) ⟨by omega, hxm⟩
      refine ys_append (i := 1) (j := 1) (x := Tup.mk (rowOf ls x)) rfl rfl (y_var rfl) (by rw [sizeLine_eq, List.length_map]; show found.length < _; omega) ?_
      have lr := rowOf_len ls x
      refine ys_forB K (ι := List Ln) (xs := rowOf ls x) (us := fun _ x => [(5, Is K x)]) (fun k d => d = S ++ (rowOf ls x).take k)
        (fun d => [some (LnT K ls), some (Vl (.ref p)), some (Vl (.ref q)), some (Is K x), some (Is K (Tup.mk (rowOf ls x))), none]) (fun d => [(q, LoT K (metF d) d.length), (p, LoL K (found.map Tup.mk ++ [Tup.mk (rowOf ls x)]))]) ?_ ?_ ?_ ?_ ?_
      · exact yi_tup (y_var rfl)
      · exact ⟨S, by rw [List.take_zero, List.append_nil], Wk1.refl _, List.Sublist.refl _⟩
      · exact fun X d x hx => yg_name
      · rintro X' j d y hy hd'
        have hj : j < (rowOf ls x).length := (List.getElem?_eq_some_iff.mp hy).1
        have dl : d.length ≤ S.length + j := by
          rw [hd', List.length_append, List.length_take]
          omega
        refine ys_dputT (i := 2) (j := 0) (b := true) rfl rfl (y_var rfl) y_bl (by rw [sizeLine_eq]; omega) ?_
        refine ys_next fun s H a => ⟨d ++ [y], ?_, ?_⟩
        · have e : (rowOf ls x)[j] = y := (List.getElem?_eq_some_iff.mp hy).2
          rw [hd', List.take_succ_eq_append_getElem hj, e, List.append_assoc]
        · have a' := a.weak (g' := [some (LnT K ls), some (Vl (.ref p)), some (Vl (.ref q)), some (Is K x), some (Is K (Tup.mk (rowOf ls x))), none]) (.keep (.keep (.keep (.keep (.keep (.drop .nil))))))
          rw [metF_put] at a'
          rw [show d.length + 1 = (d ++ [y]).length by simp] at a'
          exact a'
      · rintro d hd'
        rw [List.take_length] at hd'
        subst hd'
        refine ys_then ?_
        refine ys_next fun s H a => ⟨(found ++ [rowOf ls x], S ++ rowOf ls x), ?_, ?_⟩
        · rw [tk]
          unfold rowsStep
          rw [if_neg hS]
        · show At _ _ [(q, LoT K (metF (S ++ rowOf ls x)) (S ++ rowOf ls x).length), (p, LoL K ((found ++ [rowOf ls x]).map Tup.mk))] _ _
          rw [List.map_append]
          exact a.weak (.keep (.keep (.keep (.drop (.drop (.keep .nil))))))
    · have hS : x ∈ S := by
        unfold metF at hc
        by_cases z : x ∈ S
        · exact z
        · rw [if_neg z] at hc
          cases hc
      refine ys_then ?_
      refine ys_next fun s H a => ⟨(found, S), ?_, a.weak (.keep (.keep (.keep (.drop (.keep (.keep .nil))))))⟩
      rw [tk]
      unfold rowsStep
      rw [if_pos hS]
  · rintro ⟨found, S⟩ hd
    rw [List.take_length] at hd
    refine ys_ret (t := Is K (Tup.mk ((rowsIn ls).map Tup.mk))) ?_ hQ
    refine Y.to (y_tupL (yq_loc (j := 1) rfl rfl)) ?_
    unfold rowsIn
    rw [← hd]
end
end K29
set_option Elab.async false
set_option linter.all false
set_option maxRecDepth 100000
set_option maxHeartbeats 4000000
/-! The program's defs: settings. -/
namespace K29
open PySem PySem.Spec PyProof.Rows L2 G PySem.W
/-! ### what they compute (with no line freed) -/
def isLet (a b : Ln) (k l : Bool) : Bool := if a.2 = b.2 then decide (k ≠ l) else k || l
def stL (f : Ln → Option Bool) (l : Ln) : List Bool := [true, false].filter fun k => decide ((f l).getD k = k)
def isRowLet (row : List Ln) (first last : Bool) : Bool := if isClosed row then isLet (row.getLastD lnD) (row.headD lnD) last first else last
/-- no line freed -/
def fr0 (K : PySem.W.Frag) : Sl := Is K (Tup.mk ([] : List Str))
/-- None or a number -/
def OI (K : PySem.W.Frag) (o : Option Int) : Sl := match o with
  | none => Vl .non
  | some i => Is K i
section
variable {P : Program} {w : World} {K : PySem.W.Frag} {mg : Str → Option Value} {base : Heap}
def Nis_let : List Str := ["one", "other", "keeps", "later", "freed"]
theorem scis_let : FnScope Nis_let ["one", "other", "keeps", "later", "freed"] (defScope sis_let) := ⟨rfl, rfl, rfl, by decide +kernel, rfl, by decide +kernel, by decide +kernel⟩
abbrev spis_let (K : PySem.W.Frag) : Sp := sp5 (fun _ _ _ _ _ _ => True) (fun a : Ln => Is K a) (fun b : Ln => Is K b) (fun k : Bool => Is K k) (fun l : Bool => Is K l) (fun _ : Unit => fr0 K) fun a b k l _ => Is K (isLet a b k l)
theorem ok_is_let (M : Md K mg) : Cal P w K mg base 1 "is_let" ["one", "other", "keeps", "later", "freed"] (spis_let K) := by
  obtain ⟨fd, F⟩ := M.dis_let
  refine cal_mk F M.ois_let scis_let (fun _ _ _ _ _ _ us hl => match us, hl with | [_, _, _, _, _], _ => rfl) (fun _ => rfl) rfl fun cdv A outer s W A' H i Q E hr0 hp ok hQ => ?_
  obtain ⟨a, b, k, l, _⟩ := i
  have hu := hr0.units
  have nd := scis_let.nd
  refine ⟨_,     (pss_cons (ps_if (pt_cmpR (k_eq K Str hu) (pe_ix (k_ixU K) (pv 0) pe_int (fun _ _ => rfl)) (pe_ix (k_ixU K) (pv 1) pe_int (fun _ _ => rfl)) (nomark _))
      (pss_cons (ps_ret (pe_cmpR (k_ne K Bool hu) (pv 2) (pv 3) (nomark _)))
      pss_nil)
      pss_nil)
    (pss_cons (ps_ret (pe_or (pv 2) (pe_or (pv 3) (pe_one (pe_cmpR (k_in K Str hu) (pe_ix (k_ixU K) (pv 0) pe_int (fun _ _ => rfl)) (pv 4) rfl)))))
    pss_nil)), ?_⟩
  dsimp only [cxOf, Cx.nox, Cx.wish]
  show YS ⟨W, A', H, []⟩ [some (Is K a), some (Is K b), some (Is K k), some (Is K l), some (Is K (Tup.mk ([] : List Str)))] [] _ _
  refine ys_if (c := decide (a.2 = b.2)) ?_ (fun h => ?_) fun h => ?_
  · walk_at "yt"
  · refine ys_ret (t := Is K (isLet a b k l)) ?_ hQ
    refine Y.to (a := decide (k ≠ l)) ?_ ?_
    · walk_at "y"
    · unfold isLet
      rw [if_pos (of_decide_eq_true h)]
  · refine ys_then ?_
    refine ys_ret (t := Is K (isLet a b k l)) ?_ hQ
    refine Y.to (a := k || (l || inB a.1 [])) ?_ ?_
    · walk_at "y"
    · unfold isLet
      rw [if_neg (of_decide_eq_false h)]
      have e : inB a.1 ([] : List Str) = false := inB_false.mpr List.not_mem_nil
      rw [e, Bool.or_false]
def Nis_end_let : List Str := ["row", "place", "mate", "keeps", "freed", "line"]
theorem scis_end_let : FnScope Nis_end_let ["row", "place", "mate", "keeps", "freed"] (defScope sis_end_let) := ⟨rfl, rfl, rfl, by decide +kernel, rfl, by decide +kernel, by decide +kernel⟩
abbrev spis_end (K : PySem.W.Frag) : Sp := sp5 (fun _ (row : List Ln) (p : Int) (m : Option Int) _ _ => (∃ x, atI row p = some x) ∧ ∀ i, m = some i → ∃ x, atI row i = some x) (fun row : List Ln => Is K (Tup.mk row)) (fun p : Int => Is K p) (fun m : Option Int => OI K m) (fun k : Bool => Is K k) (fun _ : Unit => fr0 K) fun _ _ _ k _ => Is K k
theorem ok_is_end_let (M : Md K mg) : Cal P w K mg base 1 "is_end_let" ["row", "place", "mate", "keeps", "freed"] (spis_end K) := by
  obtain ⟨fd, F⟩ := M.dis_end_let
  refine cal_mk F M.ois_end_let scis_end_let (fun _ _ _ _ _ _ us hl => match us, hl with | [_, _, _, _, _], _ => rfl) (fun _ => rfl) rfl fun cdv A outer s W A' H i Q E hr0 hp ok hQ => ?_
  obtain ⟨row, p, m, k, _⟩ := i
  obtain ⟨⟨x, hx⟩, hm⟩ := hp
  have hu := hr0.units
  have nd := scis_end_let.nd
  refine ⟨_,     (pss_cons (ps_set (i := 5) nd rfl (Or.inl rfl) (pe_ix (k_ixU K) (pv 0) (pv 1) (fun _ _ => rfl)))
    (pss_cons (ps_if (PW.pt (pw_or (pt_cmpR op_isN (pv 2) pe_non (nomark _)) (pw_or1 (pt_cmpR (k_eq K Str hu) (pe_ix (k_ixU K) (pv 5) pe_int (fun _ _ => rfl)) (pe_ix (k_ixU K) (pe_ix (k_ixU K) (pv 0) (pv 2) (fun _ _ => rfl)) pe_int (fun _ _ => rfl)) (nomark _)))))
      (pss_cons (ps_ret (pv 3))
      pss_nil)
      pss_nil)
    (pss_cons (ps_ret (pe_or (pv 3) (pe_one (pe_cmpR (k_in K Str hu) (pe_ix (k_ixU K) (pv 5) pe_int (fun _ _ => rfl)) (pv 4) rfl))))
    pss_nil))), ?_⟩
  dsimp only [cxOf, Cx.nox, Cx.wish]
  show YS ⟨W, A', H, []⟩ [some (Is K (Tup.mk row)), some (Is K p), some (OI K m), some (Is K k), some (Is K (Tup.mk ([] : List Str))), none] [] _ _
  refine ys_setD (t := Is K x) (y_ixU (y_var rfl) (Y.loose (y_var rfl)) hx) ?_
  cases m with
  | none =>
    refine ys_if (c := true || false) (yt_or (yt_test (K := K) (Y.loose (y_isN (Y.loose (y_var rfl)) fun v H h => non_vl h))) fun h => by cases h) (fun _ => ?_) fun h => by cases h
    exact ys_ret (t := Is K k) (y_var rfl) hQ
  | some i =>
    obtain ⟨z, hz⟩ := hm i rfl
    refine ys_if (c := false || decide (x.1 = z.1)) (yt_or (yt_test (K := K) (Y.loose (y_isN (Y.loose (y_var rfl)) fun v H h => non_int (K := K) (i := i) h))) fun _ => yt_test (K := K) (Y.loose (y_eqT (Y.loose (y_ix0 (y_var rfl))) (Y.loose (y_ix0 (y_ixU (y_var rfl) (Y.loose (y_var rfl)) hz)))))) (fun _ => ?_) fun h => ?_
    · exact ys_ret (t := Is K k) (y_var rfl) hQ
    · refine ys_then ?_
      refine ys_ret (t := Is K k) ?_ hQ
      refine Y.to (a := k || inB x.1 []) ?_ ?_
      · walk_at "y"
      · have e : inB x.1 ([] : List Str) = false := inB_false.mpr List.not_mem_nil
        rw [e, Bool.or_false]
def Nstates : List Str := ["line", "fixed", "keeps"]
theorem scstates : FnScope Nstates ["line", "fixed"] (defScope sstates) := ⟨rfl, rfl, rfl, by decide +kernel, rfl, by decide +kernel, by decide +kernel⟩
abbrev spstates (K : PySem.W.Frag) : Sp := sp2 (fun _ _ _ => True) (fun l : Ln => Is K l) (fun f : (Ln → Option Bool) × Nat => DT K f.1 f.2) fun l f => Is K (stL f.1 l)
theorem ok_states (M : Md K mg) : Cal P w K mg base 1 "states" ["line", "fixed"] (spstates K) := by
  obtain ⟨fd, F⟩ := M.dstates
  refine cal_mk F M.ostates scstates (fun _ _ _ _ _ _ us hl => match us, hl with | [_, _], _ => rfl) (fun _ => rfl) rfl fun cdv A outer s W A' H i Q E hr0 hp ok hQ => ?_
  obtain ⟨l, f, n⟩ := i
  have hu := hr0.units
  have hu1 := hu_of hr0
  have nd := scstates.nd
  refine ⟨_,     (pss_cons (ps_ret (pe_lc rfl nd (k_tup K (pe_tup (pa_cons pe_bl (pa_cons pe_bl pa_nil)))) (blkOk_by (N := Nstates) (sc := defScope sstates) (own := [("keeps", 2)]) (by decide +kernel)) (fun _ _ _ _ _ => (pg_name (i := 2) nd rfl (Or.inl rfl))) (fun _ _ _ _ _ => (pts_one (pt_cmpR (k_eq K Bool hu) (pe_dget2 hu1 (pv 1) (pv 0) (pv 2) ⟨rfl, rfl, rfl, rfl⟩) (pv 2) (nomark _)))) (fun _ _ _ _ _ => (pv 2))))
    pss_nil), ?_⟩
  dsimp only [cxOf, Cx.nox, Cx.wish]
  show YS ⟨W, A', H, []⟩ [some (Is K l), some (DT K f n), none] [] _ _
  refine ys_ret (t := Is K (stL f l)) ?_ hQ
  refine YF.dat (YF.to (yf_lc (xs := [true, false]) (us := fun y => [(2, Is K y)]) (c := fun k => decide ((f l).getD k = k)) (f := id) ?_ (by show 2 ≤ sizeLine; decide) (fun D y _ => yg_name) (fun y _ i hi => by simpa using hi) (fun D y _ => ?_) (fun D y _ _ => y_var rfl)) (by unfold stL; simp))
  · exact (yi_tup (y_tupU (yi_cons y_bl (yi_cons y_bl yi_nil)) (by show 2 ≤ sizeLine; decide))).loose
  · exact yt_test (K := K) (Y.loose (y_eqT (Y.loose (y_dget2 (yd_dat (y_var rfl)) (Y.loose (y_var rfl)) (y_var rfl))) (Y.loose (y_var rfl))))
end
end K29
set_option Elab.async false
set_option linter.all false
set_option maxRecDepth 100000
set_option maxHeartbeats 4000000
/-! The program's defs: numbers and settings of a row. -/
namespace K29
open PySem PySem.Spec PyProof.Rows L2 G PySem.W
/-! ### what they compute -/
def nowStep (f : Ln → Option Bool) (now : List (Bool × Int)) (p : Ln × Ln) : List (Bool × Int) := (stL f p.2).map fun k => (k, ((now.filter fun q => isLet p.1 p.2 q.1 k).map (·.2)).sum)
def links (row : List Ln) : List (Ln × Ln) := row.zip (row.drop 1)
def numBegin (f : Ln → Option Bool) (row : List Ln) (b : Bool) : Int := ((((links row).foldl (nowStep f) [(b, 1)]).filter fun q => isRowLet row b q.1).map (·.2)).sum
def begins (f : Ln → Option Bool) (row : List Ln) : List Bool := (stL f (row.headD lnD)).filter fun b => isClosed row || b
def numberIn (f : Ln → Option Bool) (row : List Ln) : Int := ((begins f row).map (numBegin f row)).sum
def setStep (f : Ln → Option Bool) (ss : List (List Bool)) (p : Ln × Ln) : List (List Bool) := ss.flatMap fun s => ((stL f p.2).filter fun k => isLet p.1 p.2 (s.getLastD true) k).map fun k => s ++ [k]
def sets0 (f : Ln → Option Bool) (row : List Ln) : List (List Bool) := (begins f row).map fun b => [b]
def settingsOf (f : Ln → Option Bool) (row : List Ln) : List (List Bool) := ((links row).foldl (setStep f) (sets0 f row)).filter fun s => isRowLet row (s.headD true) (s.getLastD true)
theorem stL_len (f : Ln → Option Bool) (l : Ln) : (stL f l).length ≤ 2 := List.length_filter_le _ _
theorem stL_nodup (f : Ln → Option Bool) (l : Ln) : (stL f l).Nodup := List.Nodup.sublist List.filter_sublist (by decide)
theorem links_len (row : List Ln) : (links row).length ≤ row.length := by
  unfold links
  rw [List.length_zip]
  exact Nat.min_le_left _ _
theorem nowStep_len (f : Ln → Option Bool) (now : List (Bool × Int)) (p : Ln × Ln) : (nowStep f now p).length ≤ 2 := by
  unfold nowStep
  rw [List.length_map]
  exact stL_len _ _
theorem nowAll_len (f : Ln → Option Bool) : ∀ (ps : List (Ln × Ln)) (now : List (Bool × Int)), now.length ≤ 2 → (ps.foldl (nowStep f) now).length ≤ 2
  | [], _, h => h
  | p :: ps, now, _ => nowAll_len f ps _ (nowStep_len f now p)
theorem foldl_take_succ {α β : Type} {f : β → α → β} {b : β} {xs : List α} {i : Nat} {x : α} (h : xs[i]? = some x) : (xs.take (i + 1)).foldl f b = f ((xs.take i).foldl f b) x := by
  have hi : i < xs.length := (List.getElem?_eq_some_iff.mp h).1
  have e : xs[i] = x := (List.getElem?_eq_some_iff.mp h).2
  rw [List.take_succ_eq_append_getElem hi, List.foldl_append, e]
  rfl
section
variable {P : Program} {w : World} {K : PySem.W.Frag} {mg : Str → Option Value} {base : Heap}
def Nis_row_let : List Str := ["row", "freed", "found", "mate"]
theorem scis_row_let : FnScope Nis_row_let ["row", "freed", "found"] (defScope sis_row_let) := ⟨rfl, rfl, rfl, by decide +kernel, rfl, by decide +kernel, by decide +kernel⟩
abbrev spis_row (K : PySem.W.Frag) : Sp := sp3 (fun _ (row : List Ln) _ (q : Bool × List Bool) => row ≠ [] ∧ q.2 ≠ [] ∧ row.length ≤ 1000) (fun row : List Ln => Is K (Tup.mk row)) (fun _ : Unit => fr0 K) (fun q : Bool × List Bool => IsQ K q.1 q.2) fun row _ q => Is K (isRowLet row (q.2.headD true) (q.2.getLastD true))
theorem ok_is_row_let (M : Md K mg) (cis_closed : Cal P w K mg base 2 "is_closed" ["row"] (spclosed K)) (cis_let : Cal P w K mg base 1 "is_let" ["one", "other", "keeps", "later", "freed"] (spis_let K))
    (cis_end_let : Cal P w K mg base 1 "is_end_let" ["row", "place", "mate", "keeps", "freed"] (spis_end K)) : Cal P w K mg base 3 "is_row_let" ["row", "freed", "found"] (spis_row K) := by
  obtain ⟨fd, F⟩ := M.dis_row_let
  refine cal_mk F M.ois_row_let scis_row_let (fun _ _ _ _ _ _ us hl => match us, hl with | [_, _, _], _ => rfl) (fun _ => rfl) rfl fun cdv A outer s W A' H i Q E hr2 hp ok hQ => ?_
  obtain ⟨row, _, b, xs⟩ := i
  obtain ⟨hne, hxs, hz⟩ := hp
  have hu := hr2.units
  have hr1 := hr2.mono (j := 1) (by decide)
  have nd := scis_row_let.nd
  refine ⟨_,     (pss_cons (ps_if (pt_val (pe_cal cis_closed hr2 (by rfl) (pa_cons (pv 0) pa_nil)))
      (pss_cons (ps_ret (pe_cal cis_let hr1 (by rfl) (pa_cons (pe_ix (k_ixU K) (pv 0) (pe_un un_neg pe_int) (fun _ _ => rfl)) (pa_cons (pe_ix (k_ixU K) (pv 0) pe_int (fun _ _ => rfl)) (pa_cons (pe_ix (k_ixQ K) (pv 2) (pe_un un_neg pe_int) (fun _ _ => rfl)) (pa_cons (pe_ix (k_ixQ K) (pv 2) pe_int (fun _ _ => rfl)) (pa_cons (pv 1) pa_nil)))))))
      pss_nil)
      pss_nil)
    (pss_cons (ps_set (i := 3) nd rfl (Or.inl rfl) (pe_ifExp (pt_cmpR op_gt (pe_callB (k_len K) (by rfl) M.mlen PySem.boot_len (pa_cons (pv 0) pa_nil)) pe_int (nomark _)) (pe_op op_sub (pe_callB (k_len K) (by rfl) M.mlen PySem.boot_len (pa_cons (pv 0) pa_nil)) pe_int) pe_non))
    (pss_cons (ps_ret (pe_cal cis_end_let hr1 (by rfl) (pa_cons (pv 0) (pa_cons (pe_op op_sub (pe_callB (k_len K) (by rfl) M.mlen PySem.boot_len (pa_cons (pv 0) pa_nil)) pe_int) (pa_cons (pv 3) (pa_cons (pe_ix (k_ixQ K) (pv 2) (pe_un un_neg pe_int) (fun _ _ => rfl)) (pa_cons (pv 1) pa_nil)))))))
    pss_nil))), ?_⟩
  dsimp only [cxOf, Cx.nox, Cx.wish]
  show YS ⟨W, A', H, []⟩ [some (Is K (Tup.mk row)), some (Is K (Tup.mk ([] : List Str))), some (IsQ K b xs), none] [] _ _
  refine ys_if (c := isClosed row) ?_ (fun h => ?_) fun h => ?_
  · exact yt_val (K := K) (Y.loose (y_call1 (x := (true, row)) (ya_cons (y_var rfl) ya_nil) trivial))
  · refine ys_ret (t := Is K (isRowLet row (xs.headD true) (xs.getLastD true))) ?_ hQ
    refine Y.to (a := isLet (row.getLastD lnD) (row.headD lnD) (xs.getLastD true) (xs.headD true)) ?_ ?_
    · exact y_call5 (r := xs.headD true) (q := ()) (ya_cons (y_ixU (y_var rfl) (Y.loose (y_neg (Y.loose y_int))) (getLast_at hne)) (ya_cons (y_ixU (y_var rfl) (Y.loose y_int) (head_at hne)) (ya_cons (y_ixQ (y_var rfl) (Y.loose (y_neg (Y.loose y_int))) (getLast_at hxs)) (ya_cons (y_ixQ (y_var rfl) (Y.loose y_int) (head_at hxs)) (ya_cons (y_var rfl) ya_nil))))) trivial
    · unfold isRowLet
      rw [if_pos h]
  · refine ys_then ?_
    have lz : row.length ≠ 0 := fun z => hne (List.eq_nil_of_length_eq_zero z)
    have at_ : ∀ (n : Nat), n < row.length → ∃ x, atI row (n : Int) = some x := fun n hn => ⟨row[n], atI_nat (List.getElem?_eq_getElem hn)⟩
    refine ys_setD (t := OI K (if decide ((1 : Int) < (row.length : Int)) then some ((row.length : Int) - 2) else none)) ?_ ?_
    · refine y_if (c := decide ((1 : Int) < (row.length : Int))) ?_ (fun e => ?_) fun e => ?_
      · exact yt_test (K := K) (Y.loose (y_opB (f := fun i j => decide (j < i)) (Y.loose (y_lenU (Y.loose (y_var rfl)))) (Y.loose y_int)))
      · rw [if_pos e]
        exact y_opI (f := fun i j => i - j) (Y.loose (y_lenU (Y.loose (y_var rfl)))) (Y.loose y_int)
      · rw [if_neg (by rw [e]; exact Bool.false_ne_true)]
        exact y_vl
    · refine ys_ret (t := Is K (isRowLet row (xs.headD true) (xs.getLastD true))) ?_ hQ
      refine Y.to (a := xs.getLastD true) ?_ ?_
      · refine y_call5 (x := row) (y := (row.length : Int) - 1) (z := if decide ((1 : Int) < (row.length : Int)) then some ((row.length : Int) - 2) else none) (r := xs.getLastD true) (q := ()) (ya_cons (y_var rfl) (ya_cons (y_opI (f := fun i j => i - j) (Y.loose (y_lenU (Y.loose (y_var rfl)))) (Y.loose y_int)) (ya_cons (y_var rfl) (ya_cons (y_ixQ (y_var rfl) (Y.loose (y_neg (Y.loose y_int))) (getLast_at hxs)) (ya_cons (y_var rfl) ya_nil))))) ⟨?_, fun i e => ?_⟩
        · have := at_ (row.length - 1) (by omega)
          rwa [show ((row.length - 1 : Nat) : Int) = (row.length : Int) - 1 by omega] at this
        · by_cases c : (1 : Int) < (row.length : Int)
          · rw [decide_eq_true c] at e
            have e' : (row.length : Int) - 2 = i := Option.some.inj e
            have := at_ (row.length - 2) (by omega)
            rw [← e']
            rwa [show ((row.length - 2 : Nat) : Int) = (row.length : Int) - 2 by omega] at this
          · rw [decide_eq_false c] at e
            cases e
      · unfold isRowLet
        rw [if_neg (by rw [h]; exact Bool.false_ne_true)]
def Nnumber_in : List Str := ["row", "fixed", "freed", "total", "begin", "now", "before", "line", "keeps", "last", "many"]
theorem scnumber_in : FnScope Nnumber_in ["row", "fixed", "freed"] (defScope snumber_in) := ⟨rfl, rfl, rfl, by decide +kernel, rfl, by decide +kernel, by decide +kernel⟩
abbrev spnum (K : PySem.W.Frag) : Sp := sp3 (fun _ (row : List Ln) _ _ => row ≠ [] ∧ row.length ≤ 1000) (fun row : List Ln => Is K (Tup.mk row)) (fun f : (Ln → Option Bool) × Nat => DT K f.1 f.2) (fun _ : Unit => fr0 K) fun row f _ => Is K (numberIn f.1 row)
theorem filter_take_succ {α : Type} {c : α → Bool} {xs : List α} {i : Nat} {x : α} (h : xs[i]? = some x) : (xs.take (i + 1)).filter c = (xs.take i).filter c ++ if c x then [x] else [] := by
  have hi : i < xs.length := (List.getElem?_eq_some_iff.mp h).1
  have e : xs[i] = x := (List.getElem?_eq_some_iff.mp h).2
  rw [List.take_succ_eq_append_getElem hi, List.filter_append, e]
  cases hc : c x <;> simp [hc]
theorem ok_number_in (M : Md K mg) (cstates : Cal P w K mg base 1 "states" ["line", "fixed"] (spstates K)) (cis_closed : Cal P w K mg base 2 "is_closed" ["row"] (spclosed K)) (cis_let : Cal P w K mg base 1 "is_let" ["one", "other", "keeps", "later", "freed"] (spis_let K))
    (cis_end_let : Cal P w K mg base 1 "is_end_let" ["row", "place", "mate", "keeps", "freed"] (spis_end K)) (cis_row_let : Cal P w K mg base 3 "is_row_let" ["row", "freed", "found"] (spis_row K)) : Cal P w K mg base 4 "number_in" ["row", "fixed", "freed"] (spnum K) := by
  obtain ⟨fd, F⟩ := M.dnumber_in
  refine cal_mk F M.onumber_in scnumber_in (fun _ _ _ _ _ _ us hl => match us, hl with | [_, _, _], _ => rfl) (fun _ => rfl) rfl fun cdv A outer s W A' H i Q E hr3 hp ok hQ => ?_
  obtain ⟨row, ⟨f, n⟩, _⟩ := i
  obtain ⟨hne, hz⟩ := hp
  have hne : row ≠ [] := hne
  have hz : row.length ≤ 1000 := hz
  have hu := hr3.units
  have hr1 := hr3.mono (j := 1) (by decide)
  have hr2 := hr3.mono (j := 2) (by decide)
  have nd := scnumber_in.nd
  refine ⟨_,     (pss_cons (ps_set (i := 3) nd rfl (Or.inl rfl) pe_int)
    (pss_cons (ps_for PassesOwn.never rfl (k_list K (pe_cal cstates hr1 (by rfl) (pa_cons (pe_ix (k_ixU K) (pv 0) pe_int (fun _ _ => rfl)) (pa_cons (pv 1) pa_nil)))) (pg_name (i := 4) nd rfl (Or.inr rfl))
      (pss_cons (ps_if (PW.pt (pw_and (pt_not (pt_val (pe_cal cis_closed hr2 (by rfl) (pa_cons (pv 0) pa_nil)))) (pw_and1 (pt_not (pt_val (pe_cal cis_end_let hr1 (by rfl) (pa_cons (pv 0) (pa_cons pe_int (pa_cons (pe_ifExp (pt_cmpR op_gt (pe_callB (k_len K) (by rfl) M.mlen PySem.boot_len (pa_cons (pv 0) pa_nil)) pe_int (nomark _)) pe_int pe_non) (pa_cons (pv 4) (pa_cons (pv 2) pa_nil)))))))))))
        (pss_cons (ps_continue)
        pss_nil)
        pss_nil)
      (pss_cons (ps_set (i := 5) nd rfl (Or.inr rfl) (pe_dispB (pv 4) pe_int))
      (pss_cons (ps_for PassesOwn.never rfl (k_zip K true true (by rfl) M.mzip (pa_cons (pv 0) (pa_cons (pe_slice (k_slU K) (pv 0) (po_some pe_int) po_none) pa_nil))) (k_pg K (n := 2) (pgs_cons (pg_name (i := 6) nd rfl (Or.inr rfl)) (pgs_cons (pg_name (i := 7) nd rfl (Or.inr rfl)) pgs_nil)))
        (pss_cons (ps_set (i := 5) nd rfl (Or.inr rfl) (pe_dcB rfl nd (k_list K (pe_cal cstates hr1 (by rfl) (pa_cons (pv 7) (pa_cons (pv 1) pa_nil)))) (blkOk_by (N := Nnumber_in) (sc := defScope snumber_in) (own := [("keeps", 8)]) (by decide +kernel)) (fun _ _ _ _ _ => (pg_name (i := 8) nd rfl (Or.inr rfl))) (fun _ _ _ _ _ => pts_nil) (fun _ _ _ _ _ => (pv 8)) (fun _ _ _ _ _ => (pe_callB (k_sum K) (by rfl) M.msum (by decide +kernel) (pa_cons (pe_lc rfl nd (k_itemsB P w (pv 5)) (blkOk_by (N := Nnumber_in) (own := [("last", 9), ("many", 10)]) (by show blkC Nnumber_in (relS _ ((defScope snumber_in))) _ _ = true; decide +kernel)) (fun _ _ _ _ _ => (k_pg K (n := 2) (pgs_cons (pg_name (i := 9) nd rfl (Or.inl rfl)) (pgs_cons (pg_name (i := 10) nd rfl (Or.inl rfl)) pgs_nil)))) (fun _ _ _ _ _ => (pts_one (pt_val (pe_cal cis_let hr1 (by rfl) (pa_cons (pv 6) (pa_cons (pv 7) (pa_cons (pv 9) (pa_cons (pv 8) (pa_cons (pv 2) pa_nil))))))))) (fun _ _ _ _ _ => (pv 10))) pa_nil)))))
        pss_nil))
      (pss_cons (ps_set (i := 3) nd rfl (Or.inl rfl) (pe_op op_add (pv 3) (pe_callB (k_sum K) (by rfl) M.msum (by decide +kernel) (pa_cons (pe_lc rfl nd (k_itemsB P w (pv 5)) (blkOk_by (N := Nnumber_in) (sc := defScope snumber_in) (own := [("last", 9), ("many", 10)]) (by decide +kernel)) (fun _ _ _ _ _ => (k_pg K (n := 2) (pgs_cons (pg_name (i := 9) nd rfl (Or.inl rfl)) (pgs_cons (pg_name (i := 10) nd rfl (Or.inl rfl)) pgs_nil)))) (fun _ _ _ _ _ => (pts_one (pt_val (pe_cal cis_row_let hr3 (by rfl) (pa_cons (pv 0) (pa_cons (pv 2) (pa_cons (pe_lst (pa_cons (pv 4) (pa_cons (pv 9) pa_nil))) pa_nil))))))) (fun _ _ _ _ _ => (pv 10))) pa_nil))))
      pss_nil)))))
    (pss_cons (ps_ret (pv 3))
    pss_nil))), ?_⟩
  dsimp only [cxOf, Cx.nox, Cx.wish]
  show YS ⟨W, A', H, []⟩ [some (Is K (Tup.mk row)), some (DT K f n), some (Is K (Tup.mk ([] : List Str))), none, none, none, none, none, none, none, none] [] _ _
  have lz : row.length ≠ 0 := fun z => hne (List.eq_nil_of_length_eq_zero z)
  have at_ : ∀ (n : Nat), n < row.length → ∃ x, atI row (n : Int) = some x := fun n hn => ⟨row[n], atI_nat (List.getElem?_eq_getElem hn)⟩
  have elk : row.zip (cutL row (some 1) none) = links row := by rw [cutL_1d]; rfl
  refine ys_setD (t := Is K (0 : Int)) y_int ?_
  refine ys_forB K (ι := Int) (xs := stL f (row.headD lnD)) (us := fun _ x => [(4, Is K x)]) (fun k d => d = (((((stL f (row.headD lnD)).take k).filter fun b => isClosed row || b).map (numBegin f row)).sum))
    (fun d => [some (Is K (Tup.mk row)), some (DT K f n), some (Is K (Tup.mk ([] : List Str))), some (Is K d), none, none, none, none, none, none, none]) (fun _ => []) ?_ ?_ ?_ ?_ ?_
  · exact yi_list (y_call2 (x := row.headD lnD) (y := (f, n)) (ya_cons (y_ixU (y_var rfl) (Y.loose y_int) (head_at hne)) (ya_cons (y_var rfl) ya_nil)) trivial)
  · exact ⟨0, rfl, Wk1.refl _, List.Sublist.refl _⟩
  · exact fun X d x _ => yg_name
  · rintro X k d b hb hd
    have ft := filter_take_succ (c := fun b => isClosed row || b) hb
    refine ys_if (c := !(isClosed row) && !b) ?_ (fun h => ?_) fun h => ?_
    · refine yt_and (yt_not (yt_val (K := K) (Y.loose (y_call1 (x := (true, row)) (ya_cons (y_var rfl) ya_nil) trivial)))) fun _ => yt_not (yt_val (K := K) (Y.loose ?_))
      refine y_call5 (x := row) (y := (0 : Int)) (z := if decide ((1 : Int) < (row.length : Int)) then some (1 : Int) else none) (r := b) (q := ()) (ya_cons (y_var rfl) (ya_cons y_int (ya_cons ?_ (ya_cons (y_var rfl) (ya_cons (y_var rfl) ya_nil))))) ⟨at_ 0 (by omega), fun i e => ?_⟩
      · refine y_if (c := decide ((1 : Int) < (row.length : Int))) ?_ (fun e => ?_) fun e => ?_
        · exact yt_test (K := K) (Y.loose (y_opB (f := fun i j => decide (j < i)) (Y.loose (y_lenU (Y.loose (y_var rfl)))) (Y.loose y_int)))
        · rw [if_pos e]
          exact y_int
        · rw [if_neg (by rw [e]; exact Bool.false_ne_true)]
          exact y_vl
      · by_cases c : (1 : Int) < (row.length : Int)
        · rw [decide_eq_true c] at e
          have e' : (1 : Int) = i := Option.some.inj e
          rw [← e']
          exact at_ 1 (by omega)
        · rw [decide_eq_false c] at e
          cases e
    · refine ys_cont fun s H a => ⟨d, ?_, a.weak (.keep (.keep (.keep (.keep (.drop (.keep (.keep (.keep (.keep (.keep (.keep .nil)))))))))))⟩
      rw [ft, hd]
      have e : (isClosed row || b) = false := by
        cases h1 : isClosed row <;> cases h2 : b <;> rw [h1, h2] at h <;> first | rfl | cases h
      rw [e]
      simp
    · have hok : (isClosed row || b) = true := by
        cases h1 : isClosed row <;> cases h2 : b <;> rw [h1, h2] at h <;> first | rfl | cases h
      refine ys_then ?_
      refine ys_setD (t := DB P w [(b, 1)]) ?_ ?_
      · exact y_dispB (fun D => y_var rfl) (fun D => y_int (K := K))
      refine ys_forB K (ι := List (Bool × Int)) (xs := links row) (us := fun _ x => [(6, Is K x.1), (7, Is K x.2)]) (fun j now => now = ((links row).take j).foldl (nowStep f) [(b, 1)])
        (fun now => [some (Is K (Tup.mk row)), some (DT K f n), some (Is K (Tup.mk ([] : List Str))), some (Is K d), some (Is K b), some (DB P w now), none, none, none, none, none]) (fun _ => []) ?_ ?_ ?_ ?_ ?_
      · exact elk ▸ yi_zip (b1 := true) (b2 := true) (ya_cons (y_var rfl) (ya_cons (y_slU (y_var rfl) (yo_some (K := K) (Y.loose y_int)) yo_no) ya_nil))
      · exact ⟨_, rfl, Wk1.refl _, List.Sublist.refl _⟩
      · exact fun X d x _ => yg_pair yg_name yg_name
      · rintro X' j now p hp hnow
        have hl : now.length ≤ 2 := by rw [hnow]; exact nowAll_len f _ _ (by show 1 ≤ 2; decide)
        refine ys_setD (t := DB P w (nowStep f now p)) ?_ ?_
        · refine y_dcB (K := K) (vs := [8]) (xs := stL f p.2) (us := fun y => [(8, Is K y)]) (f := fun k => ((now.filter fun q => isLet p.1 p.2 q.1 k).map (·.2)).sum) ?_ (by have := stL_len f p.2; rw [sizeLine_eq]; omega) (stL_nodup f p.2) (fun D y _ => ?_) (fun y _ i hi => by simpa using hi) (fun D y _ => ?_) (fun D k _ => ?_)
          rotate_left
          · exact yg_name
          · exact y_var rfl
          rotate_left
          · exact (yi_list (y_call2 (x := p.2) (y := (f, n)) (ya_cons (y_var rfl) (ya_cons (y_var rfl) ya_nil)) trivial)).loose
          · refine y_sum (Y.loose (YF.dat (yf_lc (xs := now) (us := fun q => [(9, Is K q.1), (10, Is K q.2)]) (c := fun q => isLet p.1 p.2 q.1 k) (f := fun q => q.2) (yi_itemsB (y_var rfl)).loose (by rw [sizeLine_eq]; omega) (fun D q _ => yg_pair yg_name yg_name) (fun q _ i hi => by simpa using hi) (fun D q _ => ?_) (fun D q _ _ => y_var rfl))))
            exact yt_val (K := K) (Y.loose (y_call5 (x := p.1) (y := p.2) (z := q.1) (r := k) (q := ()) (ya_cons (y_var rfl) (ya_cons (y_var rfl) (ya_cons (y_var rfl) (ya_cons (y_var rfl) (ya_cons (y_var rfl) ya_nil))))) trivial))
        refine ys_next fun s H a => ⟨nowStep f now p, ?_, a.weak (.keep (.keep (.keep (.keep (.keep (.keep (.drop (.drop (.keep (.keep (.keep .nil)))))))))))⟩
        rw [foldl_take_succ hp, ← hnow]
      · rintro now hnow
        rw [List.take_length] at hnow
        have hl : now.length ≤ 2 := by rw [hnow]; exact nowAll_len f _ _ (by show 1 ≤ 2; decide)
        refine ys_setD (t := Is K (d + numBegin f row b)) ?_ ?_
        · refine y_opI (f := fun i j => i + j) (Y.loose (y_var rfl)) (Y.loose (Y.to (a := ((now.filter fun q => isRowLet row b q.1).map (·.2)).sum) (y_sum (Y.loose (YF.dat (yf_lc (xs := now) (us := fun q => [(9, Is K q.1), (10, Is K q.2)]) (c := fun q => isRowLet row b q.1) (f := fun q => q.2) (yi_itemsB (y_var rfl)).loose (by rw [sizeLine_eq]; omega) (fun D q _ => yg_pair yg_name yg_name) (fun q _ i hi => by simpa using hi) (fun D q _ => ?_) (fun D q _ _ => y_var rfl))))) ?_))
          · exact yt_val (K := K) (Y.loose (y_call3 (x := row) (y := ()) (z := (false, [b, q.1])) (ya_cons (y_var rfl) (ya_cons (y_var rfl) (ya_cons (YF.dat (yf_lst (yi_cons (y_var rfl) (yi_cons (y_var rfl) yi_nil)) (by show 2 ≤ sizeLine; decide))) ya_nil))) ⟨hne, List.cons_ne_nil _ _, hz⟩))
          · unfold numBegin
            rw [hnow]
        refine ys_next fun s H a => ⟨d + numBegin f row b, ?_, a.weak (.keep (.keep (.keep (.keep (.drop (.drop (.keep (.keep (.keep (.keep (.keep .nil)))))))))))⟩
        rw [ft, hok, hd]
        simp
  · rintro d hd
    rw [List.take_length] at hd
    exact ys_ret (t := Is K (numberIn f row)) (Y.to (y_var rfl) hd) hQ
end
end K29
set_option Elab.async false
set_option linter.all false
set_option maxRecDepth 100000
set_option maxHeartbeats 4000000
/-! The program's defs: settings of a row. -/
namespace G
open PySem PySem.Spec PyProof.Rows L2 PySem.W
theorem ys_key {B : Bs} {g g' : Slots} {L L' : Ls} {ts rest : TS} {D : Ends} (h : YS B g' L' rest D) (k : YS B g' L' rest D → YS B g L (tSeq ts rest) D) : YS B g L (tSeq ts rest) D := k h
end G
namespace K29
open PySem PySem.Spec PyProof.Rows L2 G PySem.W
theorem sum_const {α : Type} (c : Nat) : ∀ d : List α, (d.map fun _ => c).sum = d.length * c
  | [] => by simp
  | _ :: d => by
    rw [List.map_cons, List.sum_cons, sum_const c d, List.length_cons, Nat.succ_mul, Nat.add_comm]
theorem setStep_ne {f : Ln → Option Bool} {ss : List (List Bool)} {p : Ln × Ln} {s : List Bool} (h : s ∈ setStep f ss p) : s ≠ [] := by
  unfold setStep at h
  obtain ⟨t, _, h2⟩ := List.mem_flatMap.mp h
  obtain ⟨k, _, e⟩ := List.mem_map.mp h2
  rw [← e]
  simp
theorem setAll_ne (f : Ln → Option Bool) : ∀ (ps : List (Ln × Ln)) (ss : List (List Bool)), (∀ s, s ∈ ss → s ≠ []) → ∀ s, s ∈ ps.foldl (setStep f) ss → s ≠ []
  | [], _, h => h
  | p :: ps, ss, _ => setAll_ne f ps _ fun _ h => setStep_ne h
theorem sets0_ne (f : Ln → Option Bool) (row : List Ln) : ∀ s, s ∈ sets0 f row → s ≠ [] := fun s h => by
  obtain ⟨b, _, e⟩ := List.mem_map.mp h
  rw [← e]
  exact List.cons_ne_nil _ _
theorem sets0_len (f : Ln → Option Bool) (row : List Ln) : ∀ s, s ∈ sets0 f row → s.length ≤ 1 := fun s h => by
  obtain ⟨b, _, e⟩ := List.mem_map.mp h
  rw [← e]
  exact Nat.le_refl 1
theorem setStep_len {f : Ln → Option Bool} {ss : List (List Bool)} {p : Ln × Ln} {n : Nat} (hn : ∀ s, s ∈ ss → s.length ≤ n) : ∀ s, s ∈ setStep f ss p → s.length ≤ n + 1 := fun s h => by
  unfold setStep at h
  obtain ⟨t, ht, h2⟩ := List.mem_flatMap.mp h
  obtain ⟨k, _, e⟩ := List.mem_map.mp h2
  have := hn t ht
  rw [← e, List.length_append]
  show t.length + 1 ≤ _
  omega
theorem setAll_len (f : Ln → Option Bool) : ∀ (ps : List (Ln × Ln)) (ss : List (List Bool)) (n : Nat), (∀ s, s ∈ ss → s.length ≤ n) → ∀ s, s ∈ ps.foldl (setStep f) ss → s.length ≤ n + ps.length
  | [], _, _, h => h
  | p :: ps, ss, n, hn => fun s h => by
    have := setAll_len f ps _ (n + 1) (setStep_len hn) s h
    rw [List.length_cons]
    omega
section
variable {P : Program} {w : World} {K : PySem.W.Frag} {mg : Str → Option Value} {base : Heap}
def Nsettings_of : List Str := ["row", "fixed", "found", "before", "line", "keeps", "less", "setting"]
theorem scsettings_of : FnScope Nsettings_of ["row", "fixed"] (defScope ssettings_of) := ⟨rfl, rfl, rfl, by decide +kernel, rfl, by decide +kernel, by decide +kernel⟩
/-- a row whose settings are few on the way -/
def Few (f : Ln → Option Bool) (row : List Ln) : Prop := ∀ j, (((links row).take j).foldl (setStep f) (sets0 f row)).length ≤ 4000000
abbrev spset (K : PySem.W.Frag) : Sp := sp2 (fun _ (row : List Ln) (f : (Ln → Option Bool) × Nat) => row ≠ [] ∧ row.length ≤ 1000 ∧ Few f.1 row) (fun row : List Ln => Is K (Tup.mk row)) (fun f : (Ln → Option Bool) × Nat => DT K f.1 f.2) fun row f => Is K ((settingsOf f.1 row).map Tup.mk)
theorem ok_settings_of (M : Md K mg) (cstates : Cal P w K mg base 1 "states" ["line", "fixed"] (spstates K)) (cis_closed : Cal P w K mg base 2 "is_closed" ["row"] (spclosed K)) (cis_let : Cal P w K mg base 1 "is_let" ["one", "other", "keeps", "later", "freed"] (spis_let K))
    (cis_end_let : Cal P w K mg base 1 "is_end_let" ["row", "place", "mate", "keeps", "freed"] (spis_end K)) (cis_row_let : Cal P w K mg base 3 "is_row_let" ["row", "freed", "found"] (spis_row K)) : Cal P w K mg base 4 "settings_of" ["row", "fixed"] (spset K) := by
  obtain ⟨fd, F⟩ := M.dsettings_of
  refine cal_mk F M.osettings_of scsettings_of (fun _ _ _ _ _ _ us hl => match us, hl with | [_, _], _ => rfl) (fun _ => rfl) rfl fun cdv A outer s W A' H i Q E hr3 hp ok hQ => ?_
  obtain ⟨row, f, n⟩ := i
  obtain ⟨hne, hz, hfew⟩ := hp
  have hne : row ≠ [] := hne
  have hz : row.length ≤ 1000 := hz
  have hfew : Few f row := hfew
  have hu := hr3.units
  have hr1 := hr3.mono (j := 1) (by decide)
  have hr2 := hr3.mono (j := 2) (by decide)
  have nd := scsettings_of.nd
  refine ⟨_,     (pss_cons (ps_setLc (i := 2) rfl nd rfl rfl (sw_true rfl rfl rfl (by decide +kernel)) (k_list K (pe_cal cstates hr1 (by rfl) (pa_cons (pe_ix (k_ixU K) (pv 0) pe_int (fun _ _ => rfl)) (pa_cons (pv 1) pa_nil)))) (blkOk_by (N := Nsettings_of) (sc := defScope ssettings_of) (own := [("keeps", 5)]) (by decide +kernel)) (fun _ _ _ _ _ => (pg_name (i := 5) nd rfl (Or.inl rfl))) (fun _ _ _ _ _ => pts_nil) (fun _ _ _ _ _ => (pe_tup (pa_cons (pv 5) pa_nil))))
    (pss_cons (ps_if (pt_not (pt_val (pe_cal cis_closed hr2 (by rfl) (pa_cons (pv 0) pa_nil))))
      (pss_cons (ps_setLc (i := 2) rfl nd rfl rfl (sw_true rfl rfl rfl (by decide +kernel)) (k_list K (pv 2)) (blkOk_by (N := Nsettings_of) (sc := defScope ssettings_of) (own := [("keeps", 5)]) (by decide +kernel)) (fun _ _ _ _ _ => (k_pg K (n := 1) (pgs_cons (pg_name (i := 5) nd rfl (Or.inl rfl)) pgs_nil))) (fun _ _ _ _ _ => (pts_one (pt_val (pe_cal cis_end_let hr1 (by rfl) (pa_cons (pv 0) (pa_cons pe_int (pa_cons (pe_ifExp (pt_cmpR op_gt (pe_callB (k_len K) (by rfl) M.mlen PySem.boot_len (pa_cons (pv 0) pa_nil)) pe_int (nomark _)) pe_int pe_non) (pa_cons (pv 5) (pa_cons (pe_tup pa_nil) pa_nil))))))))) (fun _ _ _ _ _ => (pe_tup (pa_cons (pv 5) pa_nil))))
      pss_nil)
      pss_nil)
    (pss_cons (ps_for PassesOwn.never rfl (k_zip K true true (by rfl) M.mzip (pa_cons (pv 0) (pa_cons (pe_slice (k_slU K) (pv 0) (po_some pe_int) po_none) pa_nil))) (k_pg K (n := 2) (pgs_cons (pg_name (i := 3) nd rfl (Or.inr rfl)) (pgs_cons (pg_name (i := 4) nd rfl (Or.inr rfl)) pgs_nil)))
      (pss_cons (ps_setLc2 (i := 2) rfl nd rfl rfl (sw_true rfl rfl rfl (by decide +kernel)) (k_list K (pv 2)) (blkOk_by (N := Nsettings_of) (sc := defScope ssettings_of) (own := [("less", 6), ("keeps", 5)]) (by decide +kernel)) (vs1 := [5]) (by decide) (fun _ _ _ _ _ => (pg_name (i := 6) nd rfl (Or.inl rfl))) (fun _ _ _ _ _ => pts_nil) (fun _ _ _ _ _ => (k_list K (pe_cal cstates hr1 (by rfl) (pa_cons (pv 4) (pa_cons (pv 1) pa_nil))))) (fun _ _ _ _ _ => (pg_name (i := 5) nd rfl (Or.inl rfl))) (fun _ _ _ _ _ => (pts_one (pt_val (pe_cal cis_let hr1 (by rfl) (pa_cons (pv 3) (pa_cons (pv 4) (pa_cons (pe_ix (k_ixU K) (pv 6) (pe_un un_neg pe_int) (fun _ _ => rfl)) (pa_cons (pv 5) (pa_cons (pe_tup pa_nil) pa_nil))))))))) (fun _ _ _ _ _ => (pe_tup (k_star K (pv 6) (pa_cons (pv 5) pa_nil)))))
      pss_nil))
    (pss_cons (ps_ret (pe_lc rfl nd (k_list K (pv 2)) (blkOk_by (N := Nsettings_of) (sc := defScope ssettings_of) (own := [("setting", 7)]) (by decide +kernel)) (fun _ _ _ _ _ => (pg_name (i := 7) nd rfl (Or.inl rfl))) (fun _ _ _ _ _ => (pts_one (pt_val (pe_cal cis_row_let hr3 (by rfl) (pa_cons (pv 0) (pa_cons (pe_tup pa_nil) (pa_cons (pv 7) pa_nil))))))) (fun _ _ _ _ _ => (pv 7))))
    pss_nil)))), ?_⟩
  dsimp only [cxOf, Cx.nox, Cx.wish]
  show YS ⟨W, A', H, []⟩ [some (Is K (Tup.mk row)), some (DT K f n), none, none, none, none, none, none] [] _ _
  have lz : row.length ≠ 0 := fun z => hne (List.eq_nil_of_length_eq_zero z)
  have at_ : ∀ (n : Nat), n < row.length → ∃ x, atI row (n : Int) = some x := fun n hn => ⟨row[n], atI_nat (List.getElem?_eq_getElem hn)⟩
  have elk : row.zip (cutL row (some 1) none) = links row := by rw [cutL_1d]; rfl
  have sl := stL_len f (row.headD lnD)
  refine ys_setD (t := Is K ((stL f (row.headD lnD)).map fun b => Tup.mk [b])) (YF.dat (yf_lc1 (vs := [5]) (xs := stL f (row.headD lnD)) (us := fun y => [(5, Is K y)]) (f := fun b => Tup.mk [b]) ?_ (by rw [sizeLine_eq]; omega) (fun D y _ => yg_name) (fun y _ i hi => by simpa using hi) (fun D y _ => y_tupU (yi_cons (y_var rfl) yi_nil) (by show 1 ≤ sizeLine; decide)))) ?_
  · exact (yi_list (y_call2 (x := row.headD lnD) (y := (f, n)) (ya_cons (y_ixU (y_var rfl) (Y.loose y_int) (head_at hne)) (ya_cons (y_var rfl) ya_nil)) trivial)).loose
  refine ys_key (g' := [some (Is K (Tup.mk row)), some (DT K f n), some (Is K ((sets0 f row).map Tup.mk)), none, none, none, none, none]) (L' := []) ?_ fun key => ?_
  · refine ys_forB K (ι := List (List Bool)) (xs := links row) (us := fun _ x => [(3, Is K x.1), (4, Is K x.2)]) (fun j d => d = ((links row).take j).foldl (setStep f) (sets0 f row))
      (fun d => [some (Is K (Tup.mk row)), some (DT K f n), some (Is K (d.map Tup.mk)), none, none, none, none, none]) (fun _ => []) ?_ ?_ ?_ ?_ ?_
    · exact elk ▸ yi_zip (b1 := true) (b2 := true) (ya_cons (y_var rfl) (ya_cons (y_slU (y_var rfl) (yo_some (K := K) (Y.loose y_int)) yo_no) ya_nil))
    · exact ⟨_, rfl, Wk1.refl _, List.Sublist.refl _⟩
    · exact fun X d x _ => yg_pair yg_name yg_name
    · rintro X j d p hp hd
      have hl : d.length ≤ 4000000 := by rw [hd]; exact hfew j
      have hn : ∀ s, s ∈ d → s ≠ [] := by rw [hd]; exact setAll_ne f _ _ (sets0_ne f row)
      refine ys_setD (t := Is K ((setStep f d p).map Tup.mk)) (YF.dat (YF.to (yf_lc2 (vs := [6, 5]) (vs1 := [5]) (xs := d.map Tup.mk) (zs := fun _ => stL f p.2) (us := fun s => [(6, Is K s)]) (us1 := fun _ k => [(5, Is K k)]) (c := fun _ => true) (c1 := fun s k => isLet p.1 p.2 (s.items.getLastD true) k) (f := fun s k => Tup.mk (s.items ++ [k]))
        (yi_list (y_var rfl)).loose ?_ (fun D y _ => ?_) (fun y _ i hi => by rw [show i = 6 by simpa using hi]; exact List.mem_cons_self) (fun D y _ => yt_yes) (fun D y _ _ => yi_list (y_call2 (x := p.2) (y := (f, n)) (ya_cons (y_var rfl) (ya_cons (y_var rfl) ya_nil)) trivial)) (fun D y z _ _ => ?_) (fun y z _ _ i hi => by simpa using hi) (fun D y z hy _ _ => ?_) (fun D y z hy _ _ _ => ?_)) ?_)) ?_
      · have e : ((d.map Tup.mk).map fun _ : Tup Bool => (stL f p.2).length).sum = d.length * (stL f p.2).length := by
          rw [List.map_map]
          exact sum_const _ d
        rw [e, sizeLine_eq]
        have := Nat.mul_le_mul hl (stL_len f p.2)
        omega
      · exact yg_name
      · exact yg_name
      · obtain ⟨s, hs, rfl⟩ := List.mem_map.mp hy
        exact yt_val (K := K) (Y.loose (y_call5 (x := p.1) (y := p.2) (z := s.getLastD true) (r := z) (q := ()) (ya_cons (y_var rfl) (ya_cons (y_var rfl) (ya_cons (y_ixU (xs := s) (y_var rfl) (Y.loose (y_neg (Y.loose y_int))) (getLast_at (hn s hs))) (ya_cons (y_var rfl) (ya_cons (y_tupU yi_nil (Nat.zero_le _)) ya_nil))))) trivial))
      · obtain ⟨s, hs, rfl⟩ := List.mem_map.mp hy
        refine y_tupU (yi_starU (xs := s) (y_var rfl) (yi_cons (y_var rfl) yi_nil)) ?_
        have h1 : s.length ≤ 1 + ((links row).take j).length := by
          rw [hd] at hs
          exact setAll_len f _ _ 1 (fun t ht => sets0_len f row t ht) s hs
        have h2 := links_len row
        rw [List.length_take] at h1
        rw [List.length_append, sizeLine_eq]
        show s.length + 1 ≤ _
        omega
      · unfold setStep
        rw [List.filter_eq_self.mpr fun _ _ => rfl, List.flatMap_map, List.map_flatMap]
        simp only [List.map_map]
        rfl
      refine ys_next fun s H a => ⟨setStep f d p, ?_, a.weak (.keep (.keep (.keep (.drop (.drop (.keep (.keep (.keep .nil))))))))⟩
      rw [foldl_take_succ hp, ← hd]
    · rintro d hd
      rw [List.take_length] at hd
      have hl : d.length ≤ 4000000 := by
        have := hfew (links row).length
        rw [List.take_length] at this
        rw [hd]; exact this
      have hn : ∀ s, s ∈ d → s ≠ [] := by rw [hd]; exact setAll_ne f _ _ (sets0_ne f row)
      refine ys_ret (t := Is K ((settingsOf f row).map Tup.mk)) (YF.dat (YF.to (yf_lc (vs := [7]) (xs := d.map Tup.mk) (us := fun s => [(7, Is K s)]) (c := fun s => isRowLet row (s.items.headD true) (s.items.getLastD true)) (f := id)
        (yi_list (y_var rfl)).loose (by rw [List.length_map, sizeLine_eq]; omega) (fun D y _ => yg_name) (fun y _ i hi => by simpa using hi) (fun D y hy => ?_) (fun D y _ _ => y_var rfl)) ?_)) hQ
      · obtain ⟨s, hs, rfl⟩ := List.mem_map.mp hy
        exact yt_val (K := K) (Y.loose (y_call3 (x := row) (y := ()) (z := (true, s)) (ya_cons (y_var rfl) (ya_cons (y_tupU yi_nil (Nat.zero_le _)) (ya_cons (y_var rfl) ya_nil))) ⟨hne, hn s hs, hz⟩))
      · unfold settingsOf
        rw [← hd, List.map_id, List.filter_map]
        rfl
  · refine ys_if (c := !(isClosed row)) ?_ (fun h => ?_) fun h => ?_
    · exact yt_not (yt_val (K := K) (Y.loose (y_call1 (x := (true, row)) (ya_cons (y_var rfl) ya_nil) trivial)))
    · have hc : isClosed row = false := by cases e : isClosed row <;> rw [e] at h <;> first | rfl | cases h
      refine ys_setD (t := Is K ((sets0 f row).map Tup.mk)) (YF.dat (YF.to (yf_lc (vs := [5]) (xs := (stL f (row.headD lnD)).map fun b => Tup.mk [b]) (us := fun s => [(5, Is K (s.items.headD true))]) (c := fun s => s.items.headD true) (f := fun s => Tup.mk [s.items.headD true])
        (yi_list (y_var rfl)).loose (by rw [List.length_map, sizeLine_eq]; omega) (fun D y hy => ?_) (fun y _ i hi => by simpa using hi) (fun D y hy => ?_) (fun D y hy _ => ?_)) ?_)) (ys_then key)
      · obtain ⟨b, hb, rfl⟩ := List.mem_map.mp hy
        exact yg_one yg_name
      · obtain ⟨b, hb, rfl⟩ := List.mem_map.mp hy
        refine yt_val (K := K) (Y.loose (y_call5 (x := row) (y := (0 : Int)) (z := if decide ((1 : Int) < (row.length : Int)) then some (1 : Int) else none) (r := b) (q := ()) (ya_cons (y_var rfl) (ya_cons y_int (ya_cons ?_ (ya_cons (y_var rfl) (ya_cons (y_tupU yi_nil (Nat.zero_le _)) ya_nil))))) ⟨at_ 0 (by omega), fun i e => ?_⟩))
        · refine y_if (c := decide ((1 : Int) < (row.length : Int))) ?_ (fun e => ?_) fun e => ?_
          · exact yt_test (K := K) (Y.loose (y_opB (f := fun i j => decide (j < i)) (Y.loose (y_lenU (Y.loose (y_var rfl)))) (Y.loose y_int)))
          · rw [if_pos e]
            exact y_int
          · rw [if_neg (by rw [e]; exact Bool.false_ne_true)]
            exact y_vl
        · by_cases c : (1 : Int) < (row.length : Int)
          · rw [decide_eq_true c] at e
            have e' : (1 : Int) = i := Option.some.inj e
            rw [← e']
            exact at_ 1 (by omega)
          · rw [decide_eq_false c] at e
            cases e
      · obtain ⟨b, hb, rfl⟩ := List.mem_map.mp hy
        exact y_tupU (yi_cons (y_var rfl) yi_nil) (by show 1 ≤ sizeLine; decide)
      · unfold sets0 begins
        rw [hc, List.filter_map, List.map_map, List.map_map]
        rfl
    · have hc : isClosed row = true := by cases e : isClosed row <;> rw [e] at h <;> first | rfl | cases h
      have e : sets0 f row = (stL f (row.headD lnD)).map fun b => [b] := by
        unfold sets0 begins
        rw [hc, List.filter_eq_self.mpr fun b _ => show (true || b) = true from rfl]
      rw [e, List.map_map] at key
      exact ys_then key
end
end K29
set_option Elab.async false
set_option linter.all false
set_option maxRecDepth 100000
set_option maxHeartbeats 4000000
/-! NoChoice raised and passed on; calls with a default; isinstance; the fields of a Web. -/
namespace G
open PySem PySem.Spec PyProof.Rows L2 PySem.W
/-- a def's promise that may raise C, told by bad -/
def spX {ι : Type} (P : Wd → ι → Prop) (ss : ι → List Sl) (post : ι → Sl) (bad : ι → Bool) (C : Value) : Sp := fun vs H Q E => ∃ (W : Wd) (A : List Addr) (i : ι), Ok W A H ∧ P W i ∧ Paired (fun v (t : Sl) => t.p v (cut A H)) vs (ss i) ∧
  (bad i = false → ∀ v H', Le W.M H H' → Ok W A H' → (post i).p v (cut A H') → Q v H') ∧ (bad i = true → ∀ H', Le W.M H H' → Ok W A H' → E C none H')
section
variable {K : PySem.W.Frag} {B : Bs} {g : Slots} {L : Ls} {te t1 t2 t3 t4 : TE} {tt tu : TT} {ta : TA} {t u w : Sl} {D : Ends} {rest ts tb : TS} {E : XK}
variable {ι : Type} {P : Wd → ι → Prop} {ss : ι → List Sl} {post : ι → Sl} {bad : ι → Bool} {C : Value}
variable {α β γ : Type} {_ : DecidableEq α} {_ : Datum α} {_ : DecidableEq β} {_ : Datum β} {_ : DecidableEq γ} {_ : Datum γ}
theorem y_callX (i : ι) (h : YA B g L ta (ss i)) (hp : P B.W i) (hb : bad i = false) : Y B g L (tCall (spX P ss post bad C) [] E ta) (post i) := fun s H a Q k => h s H a _ fun vs H1 e j p => by
  have a1 := a.hd.step e j
  exact ⟨B.W, L.map (·.1) ++ B.A, i, a1.full, hp, by rw [List.append_nil]; exact p, fun _ v H' e2 o2 q => k v H' (e.trans e2) o2.j q, fun z => by rw [hb] at z; cases z⟩
/-- what is raised goes out -/
def Rx (B : Bs) (E : XK) (C : Value) : Prop := ∀ H', Le B.W.M B.H0 H' → Ok B.W B.A H' → E C none H'
theorem ys_raise (h : Rx B E C) : YS B g L (tSeq (fun _ σ H => (fun (_ : L2.St) (H : Hp) (Q : XK) => Q C none H) σ H fun cls d H' => E cls d H') rest) D := fun s H a => h H a.hd.le a.hd.ok
theorem ys_exprX (i : ι) (h : YA B g L ta (ss i)) (hp : P B.W i) (hE : bad i = true → Rx B E C) (k : bad i = false → YS B g L rest D) : YS B g L (tSeq (tDrop (tCall (spX P ss post bad C) [] E ta)) rest) D := fun s H a => h s H a _ fun vs H1 e j p => by
  have a1 := a.hd.step e j
  refine ⟨B.W, L.map (·.1) ++ B.A, i, a1.full, hp, by rw [List.append_nil]; exact p, fun hb v H' e2 o2 q => k hb s H' (a.step (e.trans e2) o2.j), fun hb H' e2 o2 => hE hb H' (a.hd.le.trans (e.trans e2)) ?_⟩
  exact (a.hd.step (e.trans e2) o2.j).ok
theorem spX_len {n : Nat} (hn : ∀ i, (ss i).length = n) : ∀ vs H Q E, spX P ss post bad C vs H Q E → vs.length = n := fun vs H Q E h => by
  obtain ⟨W, A, i, _, _, p, _⟩ := h
  rw [Paired.length p, hn i]
/-- the last argument is a default -/
theorem y_call3D {a b c : Type} {P : Wd → a → b → c → Prop} {s1 : a → Sl} {s2 : b → Sl} {s3 : c → Sl} {post : a → b → c → Sl} {x : a} {y : b} {z : c} {v : V} (h : YA B g L ta [s1 x, s2 y]) (hd : ∀ H, (s3 z).p v H) (hp : P B.W x y z) : Y B g L (tCall (sp3 P s1 s2 s3 post) [v] E ta) (post x y z) := fun s H a Q k => h s H a _ fun vs H1 e j p => by
  have a1 := a.hd.step e j
  refine ⟨B.W, L.map (·.1) ++ B.A, (x, y, z), a1.full, hp, ?_, fun v H' e2 o2 q => k v H' (e.trans e2) o2.j q⟩
  cases p with
  | cons p1 p =>
    cases p with
    | cons p2 p =>
      cases p
      exact .cons p1 (.cons p2 (.cons (hd _) .nil))
/-! ### isinstance -/
/-- of that type, as isinstance sees it -/
def TyS (K : PySem.W.Frag) (t : Sl) (T : Value) : Prop := ∀ v H, t.p v H → TyX K H v T
theorem y_isi {T : Value} {V0 : V} {U : Value} {c : Bool} (h : YL B g L te t) (hT : TyS K t T) (hc : ClsV V0 U) (hk : PySem.W.kitOne K T U = some c) : Y B g L (tCB (rIsi K) (tCons te (tCons (tC V0) tNil))) (Is K c) := fun s H a Q k => h s H a _ fun v H1 e j p =>
  ⟨v, V0, T, U, c, rfl, hc, hT v _ (t.mono lw_same p), hk, k _ H1 e j (rp_bl _)⟩
theorem ty_int {i : Int} : TyS K (Is K i) (.type "int") := fun v H p => by rw [int_rp p]; exact .base (.int i)
theorem ty_str {x : Str} : TyS K (Is K x) (.type "str") := fun v H p => by rw [str_rp p]; exact .base (.str x)
theorem ty_sqt {H : Hp} {a : Addr} {xs : List V} (h : SqT K H a xs) : TyX K H (.ref a) (.type "tuple") := by
  rcases h with (h | ⟨o, h⟩) | ⟨o, its, n, h, c, _⟩
  · exact .base (.tup h)
  · exact .fTuple h
  · exact .kTuple h c
theorem ty_tup {xs : List α} : TyS K (Is K (Tup.mk xs)) (.type "tuple") := fun v H p => by
  obtain ⟨a, vs, rfl, h, _⟩ := tup_rp p
  exact ty_sqt h
theorem ty_non : TyS K (Vl .non) (.type "NoneType") := fun v H p => by rw [show v = V.non from p]; exact .base .non
end
end G
namespace K29
open PySem PySem.Spec PyProof.Rows L2 G PySem.W
section
variable {K : PySem.W.Frag} {mg : Str → Option Value}
theorem Md.more3 (M : Md K mg) : (tupE K (He.dflAt ("number_with", none) 0 K) = true) ∧ (PySem.W.excIn K (He.ga K "NoChoice") noCh "ArithmeticError.__new__" = true ∧ PySem.W.subIn K (.ref (He.ga K "NoChoice")) (.type "BaseException") = some true ∧ PySem.W.typeIn K (.ref (He.ga K "NoChoice")) = some (.type "type")) ∧
    insE K = true := by
  have h := M.more
  unfold ex at h
  obtain ⟨h1, h2⟩ := Bool.and_eq_true_iff.mp h
  obtain ⟨h3, h4⟩ := Bool.and_eq_true_iff.mp h1
  obtain ⟨h5, h6⟩ := Bool.and_eq_true_iff.mp h4
  obtain ⟨h7, h8⟩ := Bool.and_eq_true_iff.mp h6
  exact ⟨h3, ⟨h5, of_decide_eq_true h7, of_decide_eq_true h8⟩, h2⟩
abbrev dfr (K : PySem.W.Frag) : Addr := He.dflAt ("number_with", none) 0 K
theorem Md.dfl (M : Md K mg) (H : Hp) : (Is K (Tup.mk ([] : List Str))).p (.ref (dfr K)) H := by
  have h := M.more3.1
  unfold tupE at h
  split at h
  · rename_i c od its n osl hl
    obtain ⟨h1, h2⟩ := Bool.and_eq_true_iff.mp h
    have h1 := of_decide_eq_true h1
    have h2 : its.size = 0 := of_decide_eq_true h2
    have e : its = #[] := Array.eq_empty_of_size_eq_zero h2
    subst e
    refine rp_tupT (vs := []) (.inr ⟨_, #[], n, hl, by rw [h1], rfl, Nat.zero_le _, .nil⟩) rfl RpA.nil
  · cases h
theorem Md.insC (M : Md K mg) : C8.InsC K (He.ga K "Web") := by
  have h := M.more3.2.2
  unfold insE at h
  obtain ⟨h1, h2⟩ := Bool.and_eq_true_iff.mp h
  obtain ⟨h3, h4⟩ := Bool.and_eq_true_iff.mp h2
  obtain ⟨h5, h6⟩ := Bool.and_eq_true_iff.mp h4
  exact ⟨M.clsWeb, of_decide_eq_true h1, of_decide_eq_true h3, of_decide_eq_true h5, of_decide_eq_true h6, by
    unfold kitOne
    rw [if_pos (by simp)]⟩
theorem k_dzip {X : Cx} (K : PySem.W.Frag) (b1 b2 : Bool) {e1 e2 : Expr} {ta : TA} {p p2 pos pos2 : Pos} (hgD : Gl X "dict") (hmD : X.mg "dict" = none) (hgZ : Gl X "zip") (hmZ : X.mg "zip" = none) (hu : X.A.units + 64 < cLine) (ha : PA X [e1, e2] ta) (hc : X.calm = true := by rfl) (hK : X.K = K := by rfl)
    (hs : starEach [e1, e2] X.env = (false, eval e1 X.env) :: starEach [e2] X.env := by rfl) (hpl : (backTo pos2 (starEach [e2] X.env)).any (·.1) = false := by rfl)
    (na : starEach [Expr.Call (.Name "zip" p2) [e1, e2] [] pos2] X.env = (false, eval (.Call (.Name "zip" p2) [e1, e2] [] pos2) X.env) :: starEach [] X.env := by rfl) :
    PE X (.Call (.Name "dict" p) [.Call (.Name "zip" p2) [e1, e2] [] pos2] [] pos) (tDZip K b1 b2 ta) := hK ▸ pe_dzip b1 b2 hgD hmD hgZ hmZ hc hu ha hs hpl na
/-- a def that may raise NoChoice -/
structure CalX (P : Program) (w : World) (K : PySem.W.Frag) (mg : Str → Option Value) (base : Heap) (k : Nat) (x : Str) (ps : List Str) (sp : Sp) : Prop where
  ex : ∃ f fd, mg x = some (.ref f) ∧ PySem.W.keepIn K (.ref f) = true ∧ Binds K fd ps [] ∧ FnOk P w K mg base (L2.CX P w) k f fd ps sp
/-- .. with a default -/
structure CalD (P : Program) (w : World) (K : PySem.W.Frag) (mg : Str → Option Value) (base : Heap) (k : Nat) (x : Str) (ps : List Str) (dvs : List V) (sp : Sp) : Prop where
  ex : ∃ f fd ds, mg x = some (.ref f) ∧ PySem.W.keepIn K (.ref f) = true ∧ Binds K fd ps ds ∧ Vals dvs ds ∧ FnOk P w K mg base CX0 k f fd ps sp
section
variable {X : Cx} {k : Nat} {x : Str} {p pos apos cpos : Pos} {ps : List Str} {sp : Sp} {e o : Expr} {es : List Expr} {t : TA} {te to : TE} {E : XK} {dvs : List V}
theorem pe_calX (c : CalX X.prog X.w X.K X.mg X.base k x ps sp) (hx : Passes (L2.CX X.prog X.w) X E) (hr : Room k X.A) (hg : Gl X x) (ha : PA X (e :: es) t) (hdb : (x == ("__debug__" : Str)) = false := by decide) (he : starEach (e :: es) X.env = (false, eval e X.env) :: starEach es X.env := by rfl) (hpl : (backTo pos (starEach es X.env)).any (·.1) = false := by rfl) :
    PE X (.Call (.Name x p) (e :: es) [] pos) (tCall sp [] E t) := by
  obtain ⟨f, fd, hm, hk, hb, F⟩ := c.ex
  exact pe_call F hr hg hm hk hb .nil hx ha hdb he hpl
theorem passX0 : Passes (L2.CX X.prog X.w) X (fun _ _ _ => False) := passes_call LamX.takes0 fun _ _ _ _ h => h
theorem pe_calD (c : CalD X.prog X.w X.K X.mg X.base k x ps dvs sp) (hr : Room k X.A) (hg : Gl X x) (ha : PA X (e :: es) t) (hdb : (x == ("__debug__" : Str)) = false := by decide) (he : starEach (e :: es) X.env = (false, eval e X.env) :: starEach es X.env := by rfl) (hpl : (backTo pos (starEach es X.env)).any (·.1) = false := by rfl) :
    PE X (.Call (.Name x p) (e :: es) [] pos) (tCall sp dvs E0 t) := by
  obtain ⟨f, fd, ds, hm, hk, hb, hd, F⟩ := c.ex
  exact pe_call F hr hg hm hk hb hd pass0 ha hdb he hpl
end
section
variable {P : Program} {w : World} {base : Heap} {x qual : Str} {params : Arguments} {body : List Stmt} {scope : Scope} {f : Addr} {fd : FuncData} {N ps : List Str} {k : Nat} {x' : Str}
theorem calx_mk {ι : Type} {Pc : Wd → ι → Prop} {ss : ι → List Sl} {post : ι → Sl} {bad : ι → Bool} {C : Value} (F : FunD K x qual params body scope [] [] f fd) (hm : mg x' = some (.ref f)) (S : FnScope N ps scope)
    (hb : ∀ (kV doc pm : Value) (an : Option Addr) (cdv ct : Value) (us : List Value), us.length = ps.length → bindArgs (PySem.W.fnOf x qual params body scope .none kV doc pm an cdv ct) ⟨us, []⟩ = pure (ps.zip us))
    (hn : ∀ i, (ss i).length = ps.length) (hN : Nat.ble ps.length N.length = true)
    (hbody : ∀ (cdv : Value) (A : Around) (outer : List Env) (s : Shared) (W : Wd) (A' : List Addr) (H : Hp) (i : ι) (Q : VK) (E : XK), Room k (A.deeper (envOfC qual scope s.heap.objs.size f cdv)) → Pc W i → Ok W A' H → (bad i = false → Rt ⟨W, A', H, []⟩ (post i) Q) → (bad i = true → Rx ⟨W, A', H, []⟩ E C) →
      ∃ t, PSs (cxOf (L2.CX P w) P w K mg base N qual scope f cdv A outer s H E) body t ∧ YS ⟨W, A', H, []⟩ (slots0 (ss i) N.length) [] t { nx := fun _ H' => Q .non H', rt := Q }) : CalX P w K mg base (k + 1) x' ps (spX Pc ss post bad C) := by
  refine ⟨f, fd, hm, F.kp, F.bindsN hb, F.ok S (spX_len hn) fun cdv A outer s H vs Q E hr hsp => ?_⟩
  obtain ⟨W, A', i, ok, hp, args, q, qx⟩ := hsp
  obtain ⟨t, h1, h2⟩ := hbody cdv A outer s W A' H i Q E hr hp ok (fun hb => rt_of (q hb)) (fun hb H' e o => qx hb H' e o)
  exact ⟨t, h1, h2 _ _ (at_start ok args (by rw [hn]; exact Nat.le_of_ble_eq_true hN))⟩
theorem cald_mk {ι : Type} {Pc : Wd → ι → Prop} {ss : ι → List Sl} {post : ι → Sl} {dvs : List V} {ds : List Value} (F : FunD K x qual params body scope dvs [] f fd) (hm : mg x' = some (.ref f)) (S : FnScope N ps scope) (hb : Binds K fd ps ds) (hd : Vals dvs ds)
    (hn : ∀ i, (ss i).length = ps.length) (hN : Nat.ble ps.length N.length = true)
    (hbody : ∀ (cdv : Value) (A : Around) (outer : List Env) (s : Shared) (W : Wd) (A' : List Addr) (H : Hp) (i : ι) (Q : VK) (E : XK), Room k (A.deeper (envOfC qual scope s.heap.objs.size f cdv)) → Pc W i → Ok W A' H → Rt ⟨W, A', H, []⟩ (post i) Q →
      ∃ t, PSs (cxOf CX0 P w K mg base N qual scope f cdv A outer s H E).nox body t ∧ YS ⟨W, A', H, []⟩ (slots0 (ss i) N.length) [] t { nx := fun _ H' => Q .non H', rt := Q }) : CalD P w K mg base (k + 1) x' ps dvs (spG Pc ss post) := by
  refine ⟨f, fd, ds, hm, F.kp, hb, hd, F.ok S (spG_len hn) fun cdv A outer s H vs Q E hr hsp => ?_⟩
  obtain ⟨W, A', i, ok, hp, args, q⟩ := hsp
  obtain ⟨t, h1, h2⟩ := hbody cdv A outer s W A' H i Q E hr hp ok (rt_of q)
  exact ⟨t, h1.nox, h2 _ _ (at_start ok args (by rw [hn]; exact Nat.le_of_ble_eq_true hN))⟩
end
/-! ### a Web -/
/-- the heads, the pairs and the rows of a web -/
structure Net where
  heads : List Str
  pairs : List (Str × Str)
  zz : List (List (Str × Str))
def NT (K : PySem.W.Frag) (n : Net) : Sl := ⟨fun v H => ∃ a dx fs v1 v2 v3, v = .ref a ∧ H a = some (.ins (He.ga K "Web") dx fs) ∧ fs.lookup ("heads" : Str) = some v1 ∧ Rp K H v1 (Tup.mk n.heads) ∧ fs.lookup ("pairs" : Str) = some v2 ∧ (LnT K n.pairs).p v2 H ∧
    fs.lookup ("zigzag_rows" : Str) = some v3 ∧ Rp K H v3 (Tup.mk (n.zz.map Tup.mk)),
  fun e ⟨a, dx, fs, v1, v2, v3, h0, h1, h2, h3, h4, h5, h6, h7⟩ => ⟨a, dx, fs, v1, v2, v3, h0, e _ _ h1, h2, h3.same e, h4, (LnT K n.pairs).mono e h5, h6, h7.same e⟩⟩
section
variable {B : Bs} {g : Slots} {L : Ls} {te : TE} {n : Net}
theorem y_heads (M : Md K mg) (h : Y B g L te (NT K n)) : Y B g L (tFld K te "heads") (Is K (Tup.mk n.heads)) := fun s H a Q k => h s H a _ fun v H1 e j p => by
  obtain ⟨x, dx, fs, v1, v2, v3, rfl, h1, h2, h3, h4, h5, h6, h7⟩ := p
  exact ⟨x, _, dx, fs, v1, rfl, vw_same _ _ h1, M.clsWeb, M.noat_heads, h2, k _ H1 e j h3⟩
theorem y_pairs (M : Md K mg) (h : Y B g L te (NT K n)) : Y B g L (tFld K te "pairs") (LnT K n.pairs) := fun s H a Q k => h s H a _ fun v H1 e j p => by
  obtain ⟨x, dx, fs, v1, v2, v3, rfl, h1, h2, h3, h4, h5, h6, h7⟩ := p
  exact ⟨x, _, dx, fs, v2, rfl, vw_same _ _ h1, M.clsWeb, M.noat_pairs, h4, k _ H1 e j h5⟩
theorem y_zz (M : Md K mg) (h : Y B g L te (NT K n)) : Y B g L (tFld K te "zigzag_rows") (Is K (Tup.mk (n.zz.map Tup.mk))) := fun s H a Q k => h s H a _ fun v H1 e j p => by
  obtain ⟨x, dx, fs, v1, v2, v3, rfl, h1, h2, h3, h4, h5, h6, h7⟩ := p
  exact ⟨x, _, dx, fs, v3, rfl, vw_same _ _ h1, M.clsWeb, M.noat_zigzag_rows, h6, k _ H1 e j h7⟩
theorem ty_net (M : Md K mg) : TyS K (NT K n) (.ref (He.ga K "Web")) := fun v H p => by
  obtain ⟨x, dx, fs, v1, v2, v3, rfl, h1, _⟩ := p
  have c := M.insC
  exact .base (.ins h1 c.cl c.ha c.hn c.htk c.hm)
end
end
end K29
set_option Elab.async false
set_option linter.all false
set_option maxRecDepth 100000
set_option maxHeartbeats 4000000
/-! Three rules of the hand layer that web_in needs: a dict beside {}, tuple(d.items()), len(set(xs)) of distinct texts. -/
namespace L2
open PySem PySem.Spec PyProof.Rows
section
variable {X : Cx}
/-- d == {}, d != {} -/
def rEqE : R2 := fun x y H Q => ∃ a b ks, x = .ref a ∧ y = .ref b ∧ H a = some (.dK ks) ∧ H b = some (.dK []) ∧ Q (.bl (decide (ks = []))) H
def rNeE : R2 := fun x y H Q => ∃ a b ks, x = .ref a ∧ y = .ref b ∧ H a = some (.dK ks) ∧ H b = some (.dK []) ∧ Q (.bl (!decide (ks = []))) H
theorem kv_nil {ks : List (Key × V)} {va : List (Key × Value)} (r : KV ks va) : decide (ks = []) = (va.length == ([] : List (Key × Value)).length && true) := by
  cases r with
  | nil => rfl
  | cons h t => rfl
theorem op_eqE (hu : X.A.units < cLine) : OpR X (compareOp .Eq) rEqE := by
  intro pins s σ H x y v u Q I rx ry h
  obtain ⟨a, b, ks, rfl, rfl, ea, eb, q⟩ := h
  obtain rfl : v = Value.ref a := rx
  obtain rfl : u = Value.ref b := ry
  obtain ⟨_, ya, va, ra, da⟩ := (show ObjOk X.prog X.w H s.heap a (.dK ks) from I.hok a _ ea)
  obtain ⟨_, yb, vb, rb, db⟩ := (show ObjOk X.prog X.w H s.heap b (.dK []) from I.hok b _ eb)
  have hb : vb = [] := by cases rb; rfl
  subst hb
  refine PySem.W.keq_eq (knd := mixKind X.prog X.w) (r := true) ya yb da db hu (fun hl => ?_) (fin_bl I q (kv_nil ra))
  have e : va = [] := List.eq_nil_of_length_eq_zero hl
  subst e
  exact .nil
theorem op_neE (hu : X.A.units < cLine) : OpR X (compareOp .NotEq) rNeE := by
  intro pins s σ H x y v u Q I rx ry h
  obtain ⟨a, b, ks, rfl, rfl, ea, eb, q⟩ := h
  obtain rfl : v = Value.ref a := rx
  obtain rfl : u = Value.ref b := ry
  obtain ⟨_, ya, va, ra, da⟩ := (show ObjOk X.prog X.w H s.heap a (.dK ks) from I.hok a _ ea)
  obtain ⟨_, yb, vb, rb, db⟩ := (show ObjOk X.prog X.w H s.heap b (.dK []) from I.hok b _ eb)
  have hb : vb = [] := by cases rb; rfl
  subst hb
  refine PySem.W.keq_ne (knd := mixKind X.prog X.w) (r := true) ya yb da db hu (fun hl => ?_) (fin_bl I q (by rw [kv_nil ra]))
  have e : va = [] := List.eq_nil_of_length_eq_zero hl
  subst e
  exact .nil
/-! ### tuple(d.items()) -/
section
variable {prog : Program} {w : World} {A : Around} {E : Value → Shared → Prop} {s : Shared} {r d : Addr} {kvs : List (Key × Value)} {ep : Nat}
theorem code_tuple_new_items {Q₁ : Value → Shared → Prop} (hh : A.handled = none) (hv : s.heap.IsItemsView r d) (hm : s.heap.DictAt (mixKind prog w) d kvs ep) (hn : kvs.length ≤ sizeLine)
    (h : ∀ (h' : Heap) (tk : Nat) (as : List Addr), (∀ b o, s.heap.get? b = some o → h'.get? b = some o) → as.length = kvs.length → PySem.W.KdxG (mixKind prog w) kvs s.heap.objs.size h' as →
      Q₁ (.ref h'.objs.size) { s with heap := h'.push { cls := .type "tuple", data := .seq (as.map Value.ref).toArray }, toks := tk }) :
    codeAny (model prog w) A (.call (.builtin "tuple.__new__") ⟨[.type "tuple", .ref r], []⟩) (wants Q₁ E) s := by
  refine codeAny_of_tree ?_
  show wpAny _ A.in1 (do checkBuiltinCall "tuple.__new__" ⟨[.type "tuple", .ref r], []⟩; again (.builtin "tuple.__new__" ⟨[.type "tuple", .ref r], []⟩)) _ _ s
  refine wpAny_bind (wpAny_of_eq (F.newCall_tuple_1 _) (wpAny_pure ⟨plainId_quiet F.plain_tuple_new _, codeAny_builtin F.entry_tuple_new ?_⟩))
  rw [Around.under_plainId F.plain_tuple_new _]
  have hsub := sub_tuple_self
  have hinit := init_tuple_lookup
  have hmh := madeHere_tuple
  have hTI : s.TypeIs (.ref r) "dict_items" := let ⟨o, ho, hc, _⟩ := hv; ⟨o, ho, hc⟩
  have hh1 : A.in1.handled = none := hh
  wp_walk using wpAny_typeOf hTI, PySem.W.kdx_collect (knd := mixKind prog w) (kvs := kvs) (ep := ep) (A := A.in1) hh1 hv hm hn
  intro h' tk as hk hl hG
  show wpAny _ _ (Builtin.Tuple.tupleExact (as.map Value.ref).toArray >>= fun v => ret v) _ _ _
  unfold Builtin.Tuple.tupleExact
  refine wpAny_bind (wpAny_newObj_type ?_ (by show (as.map Value.ref).toArray.size ≤ sizeLine; rw [List.size_toArray, List.length_map]; omega))
  exact wpAny_pure (h h' tk as hk hl hG)
theorem call_tuple_items {Q : Value → Shared → Prop} (hh : A.handled = none) (hv : s.heap.IsItemsView r d) (hm : s.heap.DictAt (mixKind prog w) d kvs ep) (hn : kvs.length ≤ sizeLine)
    (hQ : ∀ (h' : Heap) (tk : Nat) (as : List Addr), (∀ b o, s.heap.get? b = some o → h'.get? b = some o) → as.length = kvs.length → PySem.W.KdxG (mixKind prog w) kvs s.heap.objs.size h' as →
      Q (.ref h'.objs.size) { s with heap := h'.push { cls := .type "tuple", data := .seq (as.map Value.ref).toArray }, toks := tk }) :
    wpAny (model prog w) A (call (.type "tuple") [.ref r]) Q E s := by
  refine callType_codes (Q₁ := fun obj s₁ => s₁.TypeIs obj "tuple" ∧ Q obj s₁) F.called_tuple (F.typeCall_tuple_1 _) F.entry_object_init
    (code_tuple_new_items (A := A.in1) hh hv hm hn fun h' tk as hk hl hG => ⟨⟨_, Heap.get?_push_size _ rfl, rfl⟩, hQ h' tk as hk hl hG⟩) fun obj s₁ h₁ => ?_
  exact ⟨h₁.1, F.args_object_init_2 obj _, object_init_meets F.called_tuple.init.lookup F.called_tuple.made (by decide) prog w A.in1 _ s₁ ⟨h₁.1, rfl, h₁.2⟩⟩
end
def rItemsT : V → Hp → VK → Prop := fun x H Q => ∃ (d : Addr) (kvs : List (Key × V)), x = .ref d ∧ H d = some (.dK kvs) ∧
  ∀ (H' : Hp) (p : Addr) (ts : List Addr), (∀ b o, H b = some o → H' b = some o) → H p = none → (∀ t ∈ ts, H t = none) → H' p = some (.tup (ts.map V.ref)) → Paired (fun (t : Addr) (q : Key × V) => H' t = some (.tup [kV q.1, q.2])) ts kvs → Q (.ref p) H'
def tTupItems (te : TE) : TE := fun σ H Q => te σ H fun x H1 => rItemsT x H1 Q
/-- the entries' tuples, laid -/
theorem pairs_laid {pins : List (Addr × Obj)} {σ : L2.St} {H : Hp} {s : Shared} {h' : Heap} {tk : Nat} {kvs : List (Key × V)} {vs : List (Key × Value)} {lo : Addr} {as : List Addr} (I : Inv X pins σ H s) (kv : KV kvs vs) (hlo : s.heap.objs.size ≤ lo)
    (hk : ∀ b o, s.heap.get? b = some o → h'.get? b = some o) (hl : as.length = vs.length) (hG : PySem.W.KdxG (mixKind X.prog X.w) vs lo h' as) :
    (∀ t ∈ as, H t = none) ∧ (∀ b o, H b = some o → LiI.putT H as kvs b = some o) ∧ Paired (fun (t : Addr) (q : Key × V) => LiI.putT H as kvs t = some (.tup [kV q.1, q.2])) as kvs ∧ Inv X pins σ (LiI.putT H as kvs) { s with heap := h', toks := tk } := by
  have lk : kvs.length = vs.length := Paired.length kv
  have nd : as.Nodup := List.Pairwise.imp (fun {a b} (h : a < b) => Nat.ne_of_lt h) hG.rise
  have up : ∀ t, t ∈ as → s.heap.objs.size ≤ t := fun t ht => Nat.le_trans hlo (Nat.le_of_lt (hG.above t ht))
  have new : ∀ t ∈ as, H t = none := fun t ht => I.hok.fresh (up t ht)
  have atP := LiI.putT_at as kvs H (by omega) nd
  have kp : ∀ b o, H b = some o → LiI.putT H as kvs b = some o := fun b o e => by
    rw [LiI.putT_off as kvs H fun z => by rw [new b z] at e; cases e]
    exact e
  refine ⟨new, kp, atP, ?_⟩
  refine I.call' (ch := []) rfl ⟨fun b o q _ _ _ => hk b o q, fun b o q _ _ _ => ⟨o.slots, hk b o q⟩, fun b o q n _ => ?_, fun b o q _ => ⟨o, hk b o q⟩, fun b xs q => kp b _ q, fun b o u q => kp b _ q, fun b ps q => ⟨#[], by rw [kp b _ q]; simp⟩⟩ (fun b u q => ?_) I.bare fun b z => by simp at z
  · rw [LiI.putT_off as kvs H fun z => absurd (Heap.lt_size q) (Nat.not_lt.mpr (up b z))]
    exact n
  · by_cases hb : b ∈ as
    · obtain ⟨j, pk, e1, e2, e3⟩ := LiI.paired_ix atP hb
      rw [e3] at q
      cases q
      obtain ⟨key, k, x, f1, f2, f3⟩ := hG.pairs j b e1
      obtain ⟨qv, g1, g2, g3⟩ := LiI.paired_get kv e2
      rw [f1] at g1
      cases g1
      have rk : RelV (kV pk.1) key := by
        rw [g2]
        exact relV_key (show keyIs k key = true from f2)
      exact ⟨by show 2 ≤ sizeLine; decide, [key, x], .cons rk (.cons g3 .nil), ⟨_, f3, rfl, _, rfl⟩⟩
    · rw [LiI.putT_off as kvs H hb] at q
      exact (I.hok b u q).stay (fun d v _ y => hk d v y) (fun d y => kp d _ y) fun d xs y => kp d _ y
variable {e : Expr} {te : TE} {p apos cpos pos : Pos}
theorem pe_tupItems (hc : X.calm = true) (he : PE X e te) (hg : Gl X "tuple") (hm : X.mg "tuple" = none) (hv : bootBuiltins "tuple" = some (.type "tuple")) (hbase : attributeBase e "items" X.env (eval e X.env) = eval e X.env := by rfl) (hline : (apos.endLine == cpos.line) = true := by rfl)
    (hs : starEach [.Call (.Attribute e "items" apos) [] [] cpos] X.env = (false, eval (.Call (.Attribute e "items" apos) [] [] cpos) X.env) :: starEach [] X.env := by rfl) :
    PE X (.Call (.Name "tuple" p) [.Call (.Attribute e "items" apos) [] [] cpos] [] pos) (tTupItems te) := by
  refine ⟨fun pins s σ H Q I hq => ?_⟩
  refine wpAny_Call_Name_kw (ld_blt I hg hm hv ?_)
  refine PyProof.Rows.callWith_type1 ?_ hs rfl
  rw [hs]
  show wpAny _ _ (spliced ((false, eval (.Call (.Attribute e "items" apos) [] [] cpos) X.env) :: backTo pos (starEach [] X.env))) _ _ s
  refine Calls.spliced_cons ?_
  refine wpAny_Call_method (T := "dict") (id := "dict.items") hbase rfl hline F.plainAttrs_dict F.slot_dict_items F.type_dict_items (thn (he.run pins s σ H _ I hq) fun u s1 ⟨x, H1, I1, rx, d, kvs, ex, hd, q⟩ => ?_)
  subst ex
  obtain rfl : u = Value.ref d := rx
  obtain ⟨hz, hs0, vs, kv, hdo⟩ := I1.hok d _ hd
  obtain ⟨ep, hat⟩ := hdo.dictAt
  have lk : kvs.length = vs.length := Paired.length kv
  have I2 : Inv X pins σ H1 { s1 with heap := s1.heap.push { cls := .type "dict_items", data := .fields #[.ref d] } } := I1.kept (t' := s1.toks) fun b ob q => Heap.get?_push_of_some _ q
  refine ⟨hdo.typeIs, hdo.mapOf.noDict, ?_⟩
  show wpAny _ _ (callWith cpos (.builtin "dict.items") [.ref d] [] []) _ X.xe s1
  refine method_meetsIn F.slot_dict_items F.entry_dict_items rfl (PySem.evalArgs_none ⟨rfl, hdo.typeIs, F.args_dict_items_1 _, _, meets_dict_items (mixKind X.prog X.w) d hs0, ⟨vs, hdo⟩, ?_⟩)
  refine Calls.spliced_nil ?_
  refine call_tuple_items (kvs := vs) (ep := ep) (I1.ok.hd hc) ⟨_, Heap.get?_push_size _ rfl, rfl, rfl⟩ (hat.push _) (by omega) fun h' tk as hk hl hG => ?_
  obtain ⟨k1, k2, k3, J⟩ := pairs_laid (tk := tk) I2 kv (Nat.le_refl _) hk hl hG
  have hlt : ∀ t, t ∈ as → t ≠ h'.objs.size := fun t ht => Nat.ne_of_lt (hG.there ht)
  have fr : LiI.putT H1 as kvs h'.objs.size = none := J.hok.fresh (Nat.le_refl _)
  have J2 := J.laid (t' := tk) (h' := h'.push { cls := .type "tuple", data := .seq (as.map Value.ref).toArray }) (a := h'.objs.size) (o := .tup (as.map V.ref)) (fun b ob q => Heap.get?_push_of_some _ q) (Nat.le_refl _)
    ⟨by rw [List.length_map]; omega, as.map Value.ref, LiI.vals_refs as, ⟨_, Heap.get?_push_size _ rfl, rfl, _, rfl⟩⟩
  refine ⟨.ref h'.objs.size, _, J2, rfl, q _ _ as (fun b o e => ?_) ?_ k1 (by rw [upd_same]) ?_⟩
  · rw [upd_ne fun z => ?_]
    · exact k2 b o e
    · rw [← z] at fr
      rw [k2 b o e] at fr
      cases fr
  · cases e : H1 h'.objs.size with
    | none => rfl
    | some o => rw [k2 _ o e] at fr; cases fr
  · refine Paired.mapP k3 fun t q' e => ?_
    rw [upd_ne fun z => ?_]
    · exact e
    · rw [z, fr] at e
      cases e
end
end L2
set_option Elab.async false
set_option linter.all false
set_option maxRecDepth 100000
set_option maxHeartbeats 4000000
/-! len(set(xs)), xs a list of texts that differ (the library's rule stops at one text). -/
namespace SS
open PySem PySem.Spec PyProof.Rows
/-- the texts met before the i-th -/
def metS (xs : List Str) (i : Nat) : Str → Bool := fun k => decide (k ∈ xs.take i)
theorem getD_at {xs : List Str} {i : Nat} (h : i < xs.length) : xs.getD i Str.empty = xs[i] := by
  rw [List.getD_eq_getElem?_getD, List.getElem?_eq_getElem h]
  rfl
theorem metS_no {xs : List Str} (nd : xs.Nodup) {i : Nat} (h : i < xs.length) : metS xs i (xs.getD i Str.empty) = false := by
  rw [getD_at h]
  refine decide_eq_false fun z => ?_
  obtain ⟨j, hj, e⟩ := List.mem_iff_getElem.mp z
  rw [List.length_take] at hj
  rw [List.getElem_take] at e
  exact List.pairwise_iff_getElem.mp nd j i (by omega) h (by omega) e
theorem metS_more {xs : List Str} {i : Nat} (h : i < xs.length) (k : Str) : (metS xs i k || decide (k = xs.getD i Str.empty)) = metS xs (i + 1) k := by
  rw [getD_at h]
  unfold metS
  rw [List.take_succ_eq_append_getElem h, ← Bool.decide_or]
  exact decide_eq_decide.mpr (by rw [List.mem_append, List.mem_singleton])
section
variable {prog : Program} {w : World} {A : Around} {R : Result → Shared → Prop} {I : Addr} {fp wr : List Addr} {G : Array GenState → Array GenState → Prop} {n : Nat} {P : Nat → Value → Prop} {St : Nat → Shared → Prop}
theorem loopStrN (W : WalksS prog w A.in1 I fp wr G n P St) (S : Addr) (hSf : S ∉ fp) (xs : List Str) (hsz : xs.length = n) (nd : xs.Nodup) (hb : n + 1 < scanBound) (hval : ∀ i v, P i v → ∃ t, v = .str (xs.getD i Str.empty) t) :
    ∀ (k i : Nat) (s : Shared), n - i = k → i ≤ n → St i s → s.heap.SetOf (PySem.strKind prog w) S (metS xs i) i →
      (∀ s', Moved (S :: wr) G s s' → s'.heap.SetOf (PySem.strKind prog w) S (metS xs n) n → R (.ok (.ret .none)) s') →
      codeAny (model prog w) A (.builtin "set.update.loop" ⟨[.ref S, .ref I], []⟩) R s := by
  have hSw : S ∉ wr := fun h => hSf (W.sub _ h)
  have hsub : ∀ b ∈ wr, b ∈ S :: wr := fun b hb => List.mem_cons_of_mem _ hb
  have same : ∀ {i : Nat} {s s' : Shared}, Moved wr G s s' → s.heap.SetOf (PySem.strKind prog w) S (metS xs i) i → s'.heap.SetOf (PySem.strKind prog w) S (metS xs i) i := fun hm hS => by
    obtain ⟨o, es, ep, t, ho, rest⟩ := hS
    exact ⟨o, es, ep, t, hm.heap S _ hSw ho, rest⟩
  intro k
  induction k with
  | zero =>
    intro i s hk hi hst hS hR
    obtain rfl : i = n := by omega
    refine codeAny_builtin PyProof.Rows.F.entry_set_update_loop ?_
    rw [Around.under_plainId PyProof.Rows.F.plain_set_update_loop _]
    show wpAny _ A.in1 (pyNext (.ref I) >>= _) _ _ s
    refine wpAny_bind (W.done s _ _ hst fun s' hm => ?_)
    show wpAny _ A.in1 (ret Value.none) _ _ s'
    exact wpAny_pure (hR s' (hm.mono hsub) (same hm hS))
  | succ k ih =>
    intro i s hk hi hst hS hR
    have hlt : i < n := by omega
    have hlx : i < xs.length := by omega
    refine codeAny_builtin PyProof.Rows.F.entry_set_update_loop ?_
    rw [Around.under_plainId PyProof.Rows.F.plain_set_update_loop _]
    show wpAny _ A.in1 (pyNext (.ref I) >>= _) _ _ s
    refine wpAny_bind (W.item i s _ _ hlt hst fun v s' hP hst' hm => ?_)
    obtain ⟨t, rfl⟩ := hval i v hP
    have hS' := same hm hS
    show wpAny _ A.in1 (holding [Value.str (xs.getD i Str.empty) t] (setAdd S (.str (xs.getD i Str.empty) t)) >>= _) _ _ s'
    refine wpAny_bind (wpAny_holding ?_)
    unfold setAdd
    refine wpAny_holding ?_
    refine wpAny_bind ((PySem.strKind prog w).pyHash (k := xs.getD i Str.empty) (strKind_is _ _ _ _) ?_)
    refine wpAny_setAddHashed_of (knd := PySem.strKind prog w) (s := { s' with toks := s'.toks + 1 }) (strKind_is _ _ _ _) rfl hS' (by omega) fun h' hsb hS2 => ?_
    have hSi : h'.SetOf (PySem.strKind prog w) S (metS xs (i + 1)) (i + 1) := SetOf_congr hS2 (fun k' => metS_more hlx k') (by rw [metS_no nd hlx]; rfl)
    refine wpAny_pure ⟨plainId_quiet PyProof.Rows.F.plain_set_update_loop _, ih (i + 1) _ (by omega) hlt (W.frame _ s' _ _ hst' (Nat.le_succ _) fun b hb o e => ?_) hSi fun s'' hm'' hS'' => ?_⟩
    · rw [hsb.2 b fun z : b = S => hSf (by rw [← z]; exact hb)]
      exact e
    · refine hR s'' (Moved.trans W.gtrans ((hm.mono hsub).then_heap (Nat.le_succ _) fun b o hb e => ?_) hm'') hS''
      rw [hsb.2 b fun z : b = S => hb (by rw [z]; exact List.mem_cons_self)]
      exact e
end
section
variable {prog : Program} {w : World} {A : Around} {E : Value → Shared → Prop} {s : Shared}
/-- the set that set() starts with -/
abbrev set0 (led : Bool) : Obj := { cls := .type "set", dict := none, data := .set #[] 0 (.fresh 0 0 led) }
theorem call_set_listN {l : Addr} {items : Array Value} {xs : List Str} {Q : Value → Shared → Prop} (hh : A.handled = none) (hl : s.heap.IsList l items) (hi : StrsAre items.toList xs) (nd : xs.Nodup) (hb : xs.length + 1 < scanBound)
    (h : ∀ (h' : Heap) (tk : Nat), h'.SetOf (PySem.strKind prog w) s.heap.objs.size (metS xs xs.length) xs.length → (∀ b o, b < s.heap.objs.size → s.heap.get? b = some o → h'.get? b = some o) → Q (.ref s.heap.objs.size) { s with heap := h', toks := tk }) :
    wpAny (model prog w) A (call (.type "set") [.ref l]) Q E s := by
  obtain ⟨c, tl, hmro⟩ := PySem.F.called_set.mro
  have hmade := PySem.F.called_set.made
  have hsub := PySem.F.called_set.sub
  refine wpAny_call (codeAny_of_tree ?_)
  show wpAny _ _ (callAny (.type "set") _) _ _ _
  refine wpAny_pure ⟨Code.quiet_builtin _ (by decide +kernel), codeAny_builtin PySem.F.entry_type_call ?_⟩
  rw [Around.under_plain (weight_type_call_type "set" [.ref l] []) rfl]
  have h1 := PySem.F.called_set.notType
  have h2 := PySem.F.called_set.canCreate
  have hct := PySem.F.typeCall_set_1 (.ref l)
  repeat (any_goals (first | assumption | wp_step))
  refine codeAny_mono (code_set_new_1 (.ref l) (E := E) (Q₁ := fun obj s₁ => ∃ led : Bool, obj = .ref s.heap.objs.size ∧ s₁ = { s with heap := s.heap.push (set0 led) }) fun led => ⟨led, rfl, rfl⟩) fun r s₁ hr => ?_
  cases r with
  | error e => exact hr
  | ok fl =>
    cases fl with
    | ret obj =>
      obtain ⟨led, rfl, rfl⟩ := hr
      have hS : (s.heap.push (set0 led)).get? s.heap.objs.size = some (set0 led) := Heap.get?_push_size _ rfl
      have hT : Shared.TypeIs { s with heap := s.heap.push (set0 led) } (.ref s.heap.objs.size) "set" := ⟨_, hS, rfl⟩
      have hli := PySem.F.called_set.init.lookup
      have hbi := PySem.F.called_set.init.bind (.ref s.heap.objs.size)
      repeat (any_goals (first | assumption | wp_step))
      refine codeAny_mono (codeAny_call_builtin (R := wants (fun r s₂ => r = .none ∧ ∃ h' tk, s₂ = { s with heap := h', toks := tk } ∧ h'.SetOf (PySem.strKind prog w) s.heap.objs.size (metS xs xs.length) xs.length ∧
          (∀ b o, b < s.heap.objs.size → s.heap.get? b = some o → h'.get? b = some o)) E) PySem.F.called_set.init.plain PySem.F.entry_set_init (check_set_init_1 hT ?_)) fun r₂ s₂ hr₂ => ?_
      · obtain ⟨ol, hol, hcl, nl, hdl⟩ := hl
        obtain ⟨ocls, odict, odata, oslots⟩ := ol
        simp only at hcl hdl
        subst hcl; subst hdl
        have hol' : (s.heap.push (set0 led)).get? l = some { cls := .type "list", dict := odict, data := .seq items nl, slots := oslots } := Heap.get?_push_of_some _ hol
        have hsls := PySem.F.sub_list_set
        have hslf := PySem.F.sub_list_frozenset
        have hne : (Value.type "list" == Value.type "dict") = false := by decide
        have hl1 : (s.heap.push (set0 led)).IsList l items := ⟨_, hol', rfl, nl, rfl⟩
        unfold Builtin.«set.__init__» noKeywords Builtin.Frozenset.updateFrom
        generalize hPI : pyIter = PI
        wp_walk
        subst hPI
        refine wpAny_pyIter_list hl1 ?_
        refine wpAny_bind (wpAny_runValue ?_)
        have hlS : l < s.heap.objs.size := Heap.lt_size hol
        have hh3 : A.in1.in1.in1.handled = none := by simp [hh]
        have hneI : l ≠ (s.heap.push (set0 led)).objs.size := by rw [Heap.size_push]; exact Nat.ne_of_lt (Nat.lt_succ_of_lt hlS)
        have hSf : s.heap.objs.size ∉ [(s.heap.push (set0 led)).objs.size, l] := by
          rw [Heap.size_push]
          simp only [List.mem_cons, List.not_mem_nil, or_false, not_or]
          exact ⟨Nat.ne_of_lt (Nat.lt_succ_self _), Nat.ne_of_gt hlS⟩
        have hsz : xs.length = items.size := by rw [← StrsAre.len_eq hi, Array.length_toList]
        have hval : ∀ (i : Nat) (v : Value), items[i]? = some v → ∃ t, v = .str (xs.getD i Str.empty) t := fun i v hv => strs_at hi i v (by rw [Array.getElem?_toList]; exact hv)
        refine loopStrN ((Walks.list hh3 _ l hneI items).toS) s.heap.objs.size hSf xs hsz nd (by rw [← hsz]; exact hb) hval (items.size - 0) 0 _ (by omega) (Nat.zero_le _) ⟨⟨_, Heap.get?_push_size _ rfl, rfl, rfl⟩, (hl1.push _)⟩ ?hS0 ?hR
        case hS0 =>
          have hget : ((s.heap.push (set0 led)).push { cls := .type "list_iterator", data := .fields #[.ref l, .int 0 0] }).get? s.heap.objs.size = some (set0 led) := Heap.get?_push_of_some _ hS
          exact SetOf_congr ((setObjOf_fresh (knd := PySem.strKind prog w) led).setOf hget (by unfold scanBound; omega)) (fun _ => rfl) rfl
        case hR =>
          intro s' hm hS'
          obtain ⟨h', g', d', tk', os'⟩ := s'
          have eg : g' = s.gens := hm.gens
          have ed : d' = s.drawn := hm.drawn
          have eo : os' = s.os := hm.os
          subst eg; subst ed; subst eo
          show wpAny _ _ _ _ _ _
          refine wpAny_pure ?_
          show wpAny _ _ (ret Value.none) _ _ _
          refine wpAny_pure ⟨rfl, h', tk', rfl, by rw [hsz]; exact hS', fun b o hb e => ?_⟩
          refine hm.heap b o ?_ (Heap.get?_push_of_some _ (Heap.get?_push_of_some _ e))
          have hb2 : b ≠ (s.heap.push (set0 led)).objs.size := by rw [Heap.size_push]; exact Nat.ne_of_lt (Nat.lt_succ_of_lt hb)
          simp only [List.mem_cons, List.not_mem_nil, or_false, not_or]
          exact ⟨Nat.ne_of_lt hb, hb2⟩
      · cases r₂ with
        | error e => exact hr₂
        | ok fl₂ =>
          cases fl₂ with
          | ret r =>
            obtain ⟨rfl, h', tk, rfl, hS', hk'⟩ := hr₂
            repeat (any_goals (first | assumption | wp_step))
            exact h _ _ hS' hk'
          | _ => exact hr₂.elim
    | _ => exact hr.elim
end
end SS
namespace L2
open PySem PySem.Spec PyProof.Rows
/-- len(set(xs)), xs a list of texts that differ -/
def tLenSetN (K : PySem.W.Frag) (ta : TE) : TE := fun σ H Q => ta σ H fun x H1 => ∃ l, ∃ xs : List Str, x = .ref l ∧ SqL K H1 l (xs.map V.str) ∧ xs.Nodup ∧ xs.length ≤ 1000 ∧ Q (.int xs.length) H1
theorem pe_lenSetN {X : Cx} {a : Expr} {ta : TE} {p p2 q pos : Pos} (hc : X.calm = true) (hg : Gl X "len") (hm : X.mg "len" = none) (hg2 : Gl X "set") (hm2 : X.mg "set" = none) (ha : PE X a ta) (na : starEach [a] X.env = (false, eval a X.env) :: starEach [] X.env := by rfl) :
    PE X (.Call (.Name "len" p) [.Call (.Name "set" p2) [a] [] q] [] pos) (tLenSetN X.K ta) := by
  refine ⟨fun pins s σ H Q I h => ?_⟩
  refine Call_ (ld_blt I hg hm boot_len ?_)
  refine PyProof.Rows.callWith_builtin1 (PyProof.Rows.args_cons ?_ rfl) rfl rfl
  refine Call_ (ld_blt I hg2 hm2 boot_set ?_)
  refine PyProof.Rows.callWith_type1 (PyProof.Rows.args_cons (thn (ha.run pins s σ H _ I h) fun v s1 ⟨x, H1, I1, r1, q1⟩ => PyProof.Rows.args_nil ?_) na) na rfl
  obtain ⟨l, xs, rfl, hq, nd, hz1, q1⟩ := q1
  cases r1
  obtain ⟨its, r, pl, hz⟩ := I1.list hq
  refine SS.call_set_listN (I1.ok.hd hc) pl.isList (by simpa using strsAre_of r) nd (by unfold scanBound; omega) fun h' tk hS hk => ?_
  refine PyProof.Rows.args_nil ?_
  obtain ⟨o, es, ep, t, ho, hex, hd, _, _, _, hf, hn⟩ := hS
  have I2 : Inv X pins σ H1 { s1 with heap := h', toks := tk } := I1.kept fun b o e => hk b o (Heap.lt_size e) e
  exact call_len_set ho hex hd hf (by rw [hn] <;> omega) ⟨.int xs.length, H1, I2.tok _, ⟨_, by rw [hn]⟩, q1⟩
end L2
set_option Elab.async false
set_option linter.all false
set_option maxRecDepth 100000
set_option maxHeartbeats 4000000
/-! The rules over data, part l: a dict from names to tuples of names. -/
namespace G
open PySem PySem.Spec PyProof.Rows L2 PySem.W
abbrev NRow := Str × List Str
/-- the entries of a dict tell kvs -/
def SdR (K : PySem.W.Frag) (H : Hp) (us : List (Key × V)) (kvs : List NRow) : Prop := Paired (fun (p : Key × V) (q : NRow) => p.1 = Sum.inr q.1 ∧ Rp K H p.2 (Tup.mk q.2)) us kvs
theorem SdR.same {K : PySem.W.Frag} {H H' : Hp} {us : List (Key × V)} {kvs : List NRow} (e : Same H H') (h : SdR K H us kvs) : SdR K H' us kvs := Paired.mapP h fun _ _ q => ⟨q.1, q.2.same e⟩
def LoS (K : PySem.W.Frag) (kvs : List NRow) : Lo := ⟨fun o H => ∃ us, o = .dK us ∧ SdR K H us kvs, fun e ⟨us, h1, h2⟩ => ⟨us, h1, h2.same e⟩⟩
theorem pairs_mem {α β : Type} {F G : α → β → Prop} : ∀ (xs : List α) (ys : List β), Paired F xs ys → (∀ x, x ∈ xs → ∀ y, F x y → G x y) → Paired G xs ys
  | _, _, .nil, _ => .nil
  | _, _, .cons a b, h => .cons (h _ List.mem_cons_self _ a) (pairs_mem _ _ b fun x hx => h x (List.mem_cons_of_mem _ hx))
def DS (K : PySem.W.Frag) (kvs : List NRow) : Sl := ⟨fun v H => ∃ d us, v = .ref d ∧ H d = some (.dK us) ∧ SdR K H us kvs, fun e ⟨d, us, h0, h1, h2⟩ => ⟨d, us, h0, e _ _ h1, h2.same e⟩⟩
section
variable {K : PySem.W.Frag} {H : Hp} {us : List (Key × V)} {kvs : List NRow}
theorem SdR.val (h : SdR K H us kvs) (x : Str) : (valV us (Sum.inr x)).isSome = inB x (kvs.map (·.1)) := by
  unfold SdR at h
  induction h with
  | nil => rfl
  | @cons p q us kvs r t ih =>
    by_cases e : q.1 = x
    · rw [valV_pos (by rw [r.1, e])]
      exact (inB_true.mpr (by rw [List.map_cons, e]; exact List.mem_cons_self)).symm
    · rw [valV_neg (by rw [r.1]; intro z; cases z; exact e rfl), ih]
      unfold inB
      refine decide_eq_decide.mpr ?_
      rw [List.map_cons, List.mem_cons]
      exact ⟨.inr, fun z => z.resolve_left fun z => e z.symm⟩
theorem SdR.put (h : SdR K H us kvs) {x : Str} {ys : List Str} {v : V} (hx : x ∉ kvs.map (·.1)) (r : Rp K H v (Tup.mk ys)) : SdR K H (putK us (Sum.inr x) v) (kvs ++ [(x, ys)]) := by
  have no : (us.any fun kv => decide (kv.1 = Sum.inr x)) = false := by
    unfold SdR at h
    induction h with
    | nil => rfl
    | @cons p q us kvs r t ih =>
      rw [List.map_cons, List.mem_cons, not_or] at hx
      rw [List.any_cons, ih hx.2, decide_eq_false (by rw [r.1]; intro z; cases z; exact hx.1 rfl)]
      rfl
  unfold putK
  rw [no]
  exact pd_append h (.cons ⟨rfl, r⟩ .nil)
end
section
variable {K : PySem.W.Frag} {B : Bs} {g : Slots} {L : Ls} {te t1 t2 ty td tv : TE} {ta : TA} {t u w : Sl} {D : Ends} {rest : TS} {kvs : List NRow} {i j : Nat} {p : Addr} {E : XK}
theorem yl_locS (h : g[i]? = some (some (Vl (.ref p)))) (hl : L[j]? = some (p, LoS K kvs)) : YL B g L (tVar i) (DS K kvs) := fun s H a Q k => by
  obtain ⟨v, e1, e2⟩ := a.sg.at_ i _ h
  obtain ⟨o, e3, us, rfl, e5⟩ := a.hd.lo _ (List.mem_of_getElem? hl)
  have nm : p ∉ B.W.M := a.hd.nm _ (List.mem_of_getElem? hl)
  exact ⟨v, e1, k v H (Le.refl _ _) a.hd.ok.j ⟨p, us, e2, by unfold lw; rw [cut_out nm]; exact e3, e5.same a.hd.vl⟩⟩
theorem y_dinS {x : Str} (h1 : YL B g L ty (Is K x)) (h2 : YL B g L td (DS K kvs)) : Y B g L (tDIn ty td) (Is K (inB x (kvs.map (·.1)))) := fun s H a Q q => h1 s H a _ fun v H1 e1 j1 p1 => h2 s H1 (a.step e1 j1) _ fun y H2 e2 j2 p2 => by
  obtain ⟨d, us, rfl, hd, hv⟩ := p2
  refine ⟨d, _, rfl, by rw [str_rp p1]; exact DGet.k (k := Sum.inr x) (cut_of hd).2, q _ H2 (e1.trans e2) j2 ?_⟩
  rw [hv.val x]
  exact rp_bl _
theorem y_dnewK : Y B g L tDNewK (DS K []) := fun s H a Q k p hp => k _ _ (Le.laid hp) (a.hd.ok.laid hp).j ⟨p, [], rfl, a.hd.at_new hp, .nil⟩
theorem yo_dnewK : YO B g L tDNewK (oLo (LoS K [])) := yo_new (o := .dK []) (fun _ _ _ h => h) fun _ => ⟨[], rfl, .nil⟩
theorem sd_nil {H : Hp} {us : List (Key × V)} (h : SdR K H us kvs) : decide (us = []) = decide (kvs = []) := by
  cases h with
  | nil => rfl
  | cons a b => rfl
theorem y_eqE (h1 : YL B g L t1 (DS K kvs)) (h2 : YL B g L t2 (DS K [])) : Y B g L (tOp rEqE t1 t2) (Is K (decide (kvs = []))) := y_bin h1 h2 fun v x H Q p1 p2 q => by
  obtain ⟨d, us, rfl, hd, hv⟩ := p1
  obtain ⟨d2, us2, rfl, hd2, hv2⟩ := p2
  cases hv2
  exact ⟨d, d2, us, rfl, rfl, hd, hd2, by rw [sd_nil hv]; exact q _ fun _ => rp_bl _⟩
theorem y_neE (h1 : YL B g L t1 (DS K kvs)) (h2 : YL B g L t2 (DS K [])) : Y B g L (tOp rNeE t1 t2) (Is K (!decide (kvs = []))) := y_bin h1 h2 fun v x H Q p1 p2 q => by
  obtain ⟨d, us, rfl, hd, hv⟩ := p1
  obtain ⟨d2, us2, rfl, hd2, hv2⟩ := p2
  cases hv2
  exact ⟨d, d2, us, rfl, rfl, hd, hd2, by rw [sd_nil hv]; exact q _ fun _ => rp_bl _⟩
theorem y_lenS' (h : YL B g L te (DS K kvs)) : Y B g L (tCB (fun xs H Q => ∃ a kvs, xs = [V.ref a] ∧ H a = some (.dK kvs) ∧ Q (.int kvs.length) H) (tCons te tNil)) (Is K (kvs.length : Int)) := y_cb1 h fun v H Q p q => by
  obtain ⟨d, us, rfl, hd, hv⟩ := p
  exact ⟨d, us, rfl, hd, by rw [Paired.length hv]; exact q _ fun _ => rp_int _⟩
theorem ys_dputS {x : Str} {ys : List Str} (h : g[i]? = some (some (Vl (.ref p)))) (hl : L[j]? = some (p, LoS K kvs)) (hk : Y B g L ty (Is K x)) (hv : Y B g L tv (Is K (Tup.mk ys))) (hx : x ∉ kvs.map (·.1)) (hz : kvs.length < sizeLine) (q : YS B g (L.set j (p, LoS K (kvs ++ [(x, ys)]))) rest D) :
    YS B g L (tSeq (sDPut (tVar i) ty tv) rest) D := fun s H a => hv s H a _ fun v H1 e1 j1 p1 => by
  have a1 := a.step e1 j1
  obtain ⟨z, f1, f2⟩ := a1.sg.at_ i _ h
  have ez : z = .ref p := f2
  subst ez
  refine ⟨.ref p, f1, hk s H1 a1 _ fun y H2 e2 j2 p2 => ?_⟩
  have a2 := a1.step e2 j2
  obtain ⟨o, e3, us, rfl, e5⟩ := a2.hd.lo _ (List.mem_of_getElem? hl)
  have hlen : us.length < sizeLine := by rw [Paired.length e5]; exact hz
  refine ⟨p, _, rfl, by rw [str_rp p2]; exact DPut.k (k := Sum.inr x) e3 hlen, ?_⟩
  exact q s _ (a2.put hl ⟨_, rfl, e5.put hx (Rp.same (a1.hd.same e2) p1)⟩)
/-! ### locked, walked -/
/-- .. and its entries told -/
def LoF (K : PySem.W.Frag) (od : Obj) (us : List (Key × V)) (kvs : List NRow) : Lo := ⟨fun o H => o = .frz od (.dK us) ∧ SdR K H us kvs, fun e h => ⟨h.1, h.2.same e⟩⟩
theorem map_set {t t' : Lo} (hl : L[j]? = some (p, t)) : (L.set j (p, t')).map (·.1) = L.map (·.1) := by
  rw [List.map_set]
  refine List.ext_getElem? fun i => ?_
  by_cases hi : j = i
  · subst hi
    have hi : j < L.length := (List.getElem?_eq_some_iff.mp hl).1
    rw [List.getElem?_set_self (by rw [List.length_map]; exact hi), List.getElem?_map, hl]; rfl
  · rw [List.getElem?_set_ne hi]
theorem vw_set {t t' : Lo} {H : Hp} (hl : L[j]? = some (p, t)) : vw B (L.set j (p, t')) H = vw B L H := by
  show cut ((L.set j (p, t')).map (·.1) ++ B.A) _ = cut _ _
  rw [map_set hl]
theorem vw_upd {t : Lo} {o : HO} {H : Hp} (hl : L[j]? = some (p, t)) : vw B L (upd H p o) = vw B L H := by
  funext b
  show cut _ _ b = cut _ _ b
  by_cases hb : b ∈ L.map (·.1) ++ B.A
  · rw [cut_in hb, cut_in hb]
  · rw [cut_out hb, cut_out hb, upd_ne fun z => hb (by rw [z]; exact List.mem_append_left _ (List.mem_map.mpr ⟨_, List.mem_of_getElem? hl, rfl⟩))]
theorem y_lockE {r : Sl} (hl : L[j]? = some (p, LoS K kvs)) (h : ∀ (od : Obj) (us : List (Key × V)), Y B g (L.set j (p, LoF K od us kvs)) te r) : Y B g L (tLockE te) r := fun s H a Q k => by
  obtain ⟨o, e3, us, rfl, e5⟩ := a.hd.lo _ (List.mem_of_getElem? hl)
  have nm : p ∉ B.W.M := a.hd.nm _ (List.mem_of_getElem? hl)
  refine ⟨p, .dK us, e3, trivial, fun od => ?_⟩
  have a1 : At B g (L.set j (p, LoF K od us kvs)) s (upd H p (.frz od (.dK us))) := a.put hl ⟨rfl, e5⟩
  refine h od us s _ a1 _ fun v H' e jj pv => ?_
  have a2 := a1.step e jj
  have hl' : (L.set j (p, LoF K od us kvs))[j]? = some (p, LoF K od us kvs) := List.getElem?_set_self (List.getElem?_eq_some_iff.mp hl).1
  obtain ⟨o, e6, e7, e8⟩ := a2.hd.lo _ (List.mem_of_getElem? hl')
  have e7 : o = .frz od (.dK us) := e7
  subst e7
  refine ⟨e6, k v (upd H' p (.dK us)) (fun b o hb q => ?_) (B.W.jd (fun b hb => upd_ne fun z => nm (by rw [← z]; exact hb)) jj) ?_⟩
  · by_cases z : b = p
    · subst z
      rw [upd_same, ← q, e3]
    · rw [upd_ne z]
      exact e b o hb (by rw [upd_ne z]; exact q)
  · rw [vw_upd hl, ← vw_set (t' := LoF K od us kvs) hl]
    exact pv
theorem SdR.at_ {H : Hp} {us : List (Key × V)} {i : Nat} {k : Key} {v : V} (h : SdR K H us kvs) (e : us[i]? = some (k, v)) : ∃ q, kvs[i]? = some q ∧ k = Sum.inr q.1 ∧ Rp K H v (Tup.mk q.2) := by
  obtain ⟨q, e1, e2⟩ := LiI.paired_get h e
  exact ⟨q, e1, e2⟩
theorem wk_vals {d : Addr} {od : Obj} {us : List (Key × V)} (hl : us.length = kvs.length) : Wk K (Itd d od us) (kvs.map fun q => Tup.mk q.2) (fun H N => H d = some (.frz od (.dK us)) ∧ SdR K N us kvs) where
  mono := fun e f q => ⟨e _ _ q.1, q.2.same f⟩
  go := fun i H N hi q => walk_values.goes i H (by rw [List.length_map] at hi; omega) q.1
  stop := fun H N q => by
    rw [List.length_map, ← hl]
    exact walk_values.stops H q.1
  yld := fun A i H v H' x av q hx y => by
    obtain ⟨e, k, y⟩ := y
    subst e
    obtain ⟨z, e1, e2, e3⟩ := q.2.at_ y
    rw [List.getElem?_map, e1] at hx
    cases hx
    exact ⟨fun _ _ => rfl, e3⟩
theorem wk_keys {d : Addr} {od : Obj} {us : List (Key × V)} (hl : us.length = kvs.length) : Wk K (Itk d od us) (kvs.map (·.1)) (fun H N => H d = some (.frz od (.dK us)) ∧ SdR K N us kvs) where
  mono := fun e f q => ⟨e _ _ q.1, q.2.same f⟩
  go := fun i H N hi q => walk_keys.goes i H (by rw [List.length_map] at hi; omega) q.1
  stop := fun H N q => by
    rw [List.length_map, ← hl]
    exact walk_keys.stops H q.1
  yld := fun A i H v H' x av q hx y => by
    obtain ⟨e, k, w, y, rfl⟩ := y
    subst e
    obtain ⟨z, e1, e2, e3⟩ := q.2.at_ y
    rw [List.getElem?_map, e1] at hx
    cases hx
    subst e2
    exact ⟨fun _ _ => rfl, rp_str _⟩
theorem yi_valsS {od : Obj} {us : List (Key × V)} (h : g[i]? = some (some (Vl (.ref p)))) (hl : L[j]? = some (p, LoF K od us kvs)) : YIL K B g L (iVals (tVar i)) (kvs.map fun q => Tup.mk q.2) := fun s H a R k => by
  obtain ⟨v, e1, e2⟩ := a.sg.at_ i _ h
  have e2 : v = .ref p := e2
  subst e2
  obtain ⟨o, e3, e4, e5⟩ := a.hd.lo _ (List.mem_of_getElem? hl)
  have e4 : o = .frz od (.dK us) := e4
  subst e4
  have nm : p ∉ B.W.M := a.hd.nm _ (List.mem_of_getElem? hl)
  exact ⟨.ref p, e1, p, od, us, rfl, e3, k _ _ H (Le.refl _ _) a.hd.ok.j (wk_vals (Paired.length e5)) ⟨by unfold lw; rw [cut_out nm]; exact e3, e5⟩⟩
theorem yi_keysS {od : Obj} {us : List (Key × V)} (h : g[i]? = some (some (Vl (.ref p)))) (hl : L[j]? = some (p, LoF K od us kvs)) : YIL K B g L (iKeys (tVar i)) (kvs.map (·.1)) := fun s H a R k => by
  obtain ⟨v, e1, e2⟩ := a.sg.at_ i _ h
  have e2 : v = .ref p := e2
  subst e2
  obtain ⟨o, e3, e4, e5⟩ := a.hd.lo _ (List.mem_of_getElem? hl)
  have e4 : o = .frz od (.dK us) := e4
  subst e4
  have nm : p ∉ B.W.M := a.hd.nm _ (List.mem_of_getElem? hl)
  exact ⟨.ref p, e1, p, od, rfl, .inl ⟨us, e3, k _ _ H (Le.refl _ _) a.hd.ok.j (wk_keys (Paired.length e5)) ⟨by unfold lw; rw [cut_out nm]; exact e3, e5⟩⟩⟩
theorem items_rp {H : Hp} {ts : List Addr} {us : List (Key × V)} (h1 : Paired (fun (t : Addr) (q : Key × V) => H t = some (.tup [kV q.1, q.2])) ts us) : ∀ {kvs : List NRow}, SdR K H us kvs → RpA K H (ts.map V.ref) (kvs.map fun q => (q.1, Tup.mk q.2)) := by
  induction h1 with
  | nil => intro kvs h2; cases h2; exact RpA.nil
  | cons a b ih =>
    intro kvs h2
    cases h2 with
    | cons r t =>
      refine RpA.cons (rp_pair a ?_ r.2) (ih t)
      rw [r.1]
      exact rp_str _
theorem y_tupItems (h : g[i]? = some (some (Vl (.ref p)))) (hl : L[j]? = some (p, LoS K kvs)) : Y B g L (tTupItems (tVar i)) (Is K (Tup.mk (kvs.map fun q => (q.1, Tup.mk q.2)))) := fun s H a Q k => by
  obtain ⟨v, e1, e2⟩ := a.sg.at_ i _ h
  have e2 : v = .ref p := e2
  subst e2
  obtain ⟨o, e3, us, rfl, e5⟩ := a.hd.lo _ (List.mem_of_getElem? hl)
  refine ⟨.ref p, e1, p, us, rfl, e3, fun H' q ts hk hq hts h' hp => k (.ref q) H' (fun b o _ e => hk b o e) (B.W.jd (fun b hb => ?_) a.hd.ok.j) ?_⟩
  · cases e : H b with
    | none => exact absurd e (B.W.jm a.hd.ok.j b hb)
    | some o => exact hk b o e
  · have fr : ∀ {b o}, H b = none → H' b = some o → vw B L H' b = some o := fun hb ho => by
      unfold vw
      rw [cut_out (a.hd.fresh hb)]
      exact ho
    have hs : Same (vw B L H) (vw B L H') := fun b o e => by
      obtain ⟨h1, h2⟩ := cut_of e
      unfold vw
      rw [cut_out h1]
      exact hk b o h2
    refine rp_tup (fr hq h') (items_rp ?_ (e5.same hs))
    refine pairs_mem ts us hp fun t ht q e => fr (hts t ht) e
/-! ### calls that read the own changing things -/
theorem y_callL {ι : Type} {P : Wd → ι → Prop} {ss : ι → List Sl} {post : ι → Sl} (i : ι) {b : Bool} (h : YAL B g L ta (ss i)) (hp : P B.W i) (hb : post i = Is K b) : Y B g L (tCall (spG P ss post) [] E ta) (Is K b) := fun s H a Q k => h s H a _ fun vs H1 e j p => by
  refine ⟨B.W, B.W.M, i, ⟨fun _ h => h, j, fun b hb => B.W.jm j b hb⟩, hp, by rw [List.append_nil]; exact p, fun v H' e2 o2 q => k v H' (e.trans e2) o2.j ?_⟩
  rw [hb] at q
  rw [bl_rp q]
  exact rp_bl _
theorem y_callL2 {a b : Type} {P : Wd → a → b → Prop} {s1 : a → Sl} {s2 : b → Sl} {post : a → b → Sl} {x : a} {y : b} {c : Bool} (h : YAL B g L ta [s1 x, s2 y]) (hp : P B.W x y) (hb : post x y = Is K c) : Y B g L (tCall (sp2 P s1 s2 post) [] E ta) (Is K c) :=
  y_callL (P := fun W (i : a × b) => P W i.1 i.2) (ss := fun i => [s1 i.1, s2 i.2]) (post := fun i => post i.1 i.2) (x, y) h hp hb
theorem k_lenSetN {X : Cx} (K : PySem.W.Frag) {a : Expr} {ta : TE} {p p2 q pos : Pos} (hg : Gl X "len") (hm : X.mg "len" = none) (hg2 : Gl X "set") (hm2 : X.mg "set" = none) (ha : PE X a ta) (hc : X.calm = true := by rfl) (hK : X.K = K := by rfl) (na : starEach [a] X.env = (false, eval a X.env) :: starEach [] X.env := by rfl) :
    PE X (.Call (.Name "len" p) [.Call (.Name "set" p2) [a] [] q] [] pos) (tLenSetN K ta) := hK ▸ pe_lenSetN hc hg hm hg2 hm2 ha na
theorem k_sfld {X : Cx} (K : PySem.W.Frag) {o value : Expr} {f : Str} {ta tv : TE} {pos pos' : Pos} (ha : PE X o ta) (hv : PE X value tv) (hK : X.K = K := by rfl) (hs : swapsWith value (some (.Attribute o f pos')) pos.line X.env = pure false := by rfl) : PS X (.Assign [.Attribute o f pos'] value pos) (sFld K ta tv f) := hK ▸ ps_fld ha hv hs
theorem y_lenSetN {xs : List Str} (h : YL B g L te (Is K xs)) (nd : xs.Nodup) (hz : xs.length ≤ 1000) : Y B g L (tLenSetN K te) (Is K (xs.length : Int)) := fun s H a Q k => h s H a _ fun v H1 e j p => by
  obtain ⟨b, vs, rfl, hs, hv⟩ := lst_rp (Rp.same lw_same p)
  rw [strs_rp hv] at hs
  exact ⟨b, xs, rfl, hs, nd, hz, k _ H1 e j (rp_int _)⟩
end
end G
set_option Elab.async false
set_option linter.all false
set_option maxRecDepth 100000
set_option maxHeartbeats 4000000
/-! The program's defs: from the checks to worth. -/
namespace K29
open PySem PySem.Spec PyProof.Rows L2 G PySem.W
/-! ### what they compute -/
def numWith (f : Ln → Option Bool) (n : Net) : Int := n.zz.foldl (fun a r => a * numberIn f r) 1
def sumsIn (kn : Ln → Option Int) (f : Ln → Option Bool) (row : List Ln) : List Int := (settingsOf f row).map fun s => (((row.zip s).filter fun p => p.2).map fun p => (kn p.1).getD 0).sum
def bestWith (n : Net) (ws : List Int) (f : Ln → Option Bool) : Int := (n.zz.map fun r => mxI (sumsIn (lkZ n.pairs ws) f r)).sum
def nofix : Ln → Option Bool := fun _ => none
def onefix (l : Ln) (b : Bool) : Ln → Option Bool := fun j => if l = j then some b else none
def worthOf (n : Net) (ws : List Int) (l : Ln) : Option Int := if decide (numWith (onefix l true) n = 0) || decide (numWith (onefix l false) n = 0) then none else some (bestWith n ws (onefix l true) - bestWith n ws (onefix l false))
/-- what a net of the law is -/
structure NetOk (n : Net) : Prop where
  nd : n.pairs.Nodup
  sz : n.pairs.length ≤ 1000
  zs : n.zz.length ≤ 1000
  ne : ∀ r, r ∈ n.zz → r ≠ []
  rs : ∀ r, r ∈ n.zz → r.length ≤ 1000
  rp : ∀ r, r ∈ n.zz → ∀ l, l ∈ r → l ∈ n.pairs
  few : ∀ r, r ∈ n.zz → ∀ f, Few f r
  nb : ∀ r, r ∈ n.zz → ∀ f, -(2 ^ 64) < numberIn f r ∧ numberIn f r < 2 ^ 64
  num : ∀ f, numWith f n ≠ 0 → ∀ r, r ∈ n.zz → settingsOf f r ≠ []
  hd : ∀ l, l ∈ n.pairs → l.1 ∈ n.heads ∧ l.2 ∈ n.heads
def WsOk (n : Net) (ws : List Int) : Prop := ws.length = n.pairs.length ∧ ∀ x, x ∈ ws → -1000000000000 ≤ x ∧ x ≤ 1000000000000
theorem lkZ_some {α : Type} : ∀ {ls : List Ln} {xs : List α} {l : Ln}, ls.length = xs.length → l ∈ ls → ∃ x, lkZ ls xs l = some x
  | [], _, _, _, h => absurd h List.not_mem_nil
  | a :: ls, [], _, h, _ => by cases h
  | a :: ls, x :: xs, l, h, hm => by
    unfold lkZ
    split
    · exact ⟨x, rfl⟩
    · rename_i c
      exact lkZ_some (Nat.succ.inj h) ((List.mem_cons.mp hm).resolve_left fun z => c z.symm)
section
variable {P : Program} {w : World} {K : PySem.W.Frag} {mg : Str → Option Value} {base : Heap}
def Nis_integer : List Str := ["value"]
theorem scis_integer : FnScope Nis_integer ["value"] (defScope sis_integer) := ⟨rfl, rfl, rfl, by decide +kernel, rfl, by decide +kernel, by decide +kernel⟩
abbrev spis_integer (K : PySem.W.Frag) : Sp := sp1 (fun _ _ => True) (fun i : Int => Is K i) fun _ => Is K true
theorem ok_is_integer (M : Md K mg) : Cal P w K mg base 1 "is_integer" ["value"] (spis_integer K) := by
  obtain ⟨fd, F⟩ := M.dis_integer
  refine cal_mk F M.ois_integer scis_integer (fun _ _ _ _ _ _ us hl => match us, hl with | [_], _ => rfl) (fun _ => rfl) rfl fun cdv A outer s W A' H i Q E hr0 hp ok hQ => ?_
  have hu := hr0.units
  have nd := scis_integer.nd
  refine ⟨_,     (pss_cons (ps_ret (pe_and (pe_callB (k_isi K) (by rfl) M.misinstance (by decide +kernel) (pa_cons (pv 0) (pa_cons (pe_bltn (v := .ty "int") (by rfl) M.mint (by decide +kernel) rfl) pa_nil))) (pe_one (pe_not (pe_callB (k_isi K) (by rfl) M.misinstance (by decide +kernel) (pa_cons (pv 0) (pa_cons (pe_bltn (v := .ty "bool") (by rfl) M.mbool (by decide +kernel) rfl) pa_nil)))))))
    pss_nil), ?_⟩
  dsimp only [cxOf, Cx.nox, Cx.wish]
  show YS ⟨W, A', H, []⟩ [some (Is K i)] [] _ _
  refine ys_ret (t := Is K true) (Y.to (a := true && !false) ?_ rfl) hQ
  exact y_andV (y_isi (Y.loose (y_var rfl)) ty_int (.ty _) rfl) fun _ => y_notV (y_isi (Y.loose (y_var rfl)) ty_int (.ty _) rfl)
def Nis_between : List Str := ["value", "least", "most"]
theorem scis_between : FnScope Nis_between ["value", "least", "most"] (defScope sis_between) := ⟨rfl, rfl, rfl, by decide +kernel, rfl, by decide +kernel, by decide +kernel⟩
abbrev spis_between (K : PySem.W.Frag) : Sp := sp3 (fun _ _ _ _ => True) (fun i : Int => Is K i) (fun i : Int => Is K i) (fun i : Int => Is K i) fun i a b => Is K (decide (a ≤ i) && decide (i ≤ b))
theorem ok_is_between (M : Md K mg) (cis_integer : Cal P w K mg base 1 "is_integer" ["value"] (spis_integer K)) : Cal P w K mg base 2 "is_between" ["value", "least", "most"] (spis_between K) := by
  obtain ⟨fd, F⟩ := M.dis_between
  refine cal_mk F M.ois_between scis_between (fun _ _ _ _ _ _ us hl => match us, hl with | [_, _, _], _ => rfl) (fun _ => rfl) rfl fun cdv A outer s W A' H i Q E hr1 hp ok hQ => ?_
  obtain ⟨i, a, b⟩ := i
  have nd := scis_between.nd
  refine ⟨_,     (pss_cons (ps_ret (pe_and (pe_cal cis_integer hr1 (by rfl) (pa_cons (pv 0) pa_nil)) (pe_one (pe_chain op_le op_le (pv 1) (pv 0) (pv 2)))))
    pss_nil), ?_⟩
  dsimp only [cxOf, Cx.nox, Cx.wish]
  show YS ⟨W, A', H, []⟩ [some (Is K i), some (Is K a), some (Is K b)] [] _ _
  refine ys_ret (t := Is K (decide (a ≤ i) && decide (i ≤ b))) (Y.to (a := true && (decide (a ≤ i) && decide (i ≤ b))) ?_ (Bool.true_and _)) hQ
  exact y_andV (y_call1 (ya_cons (y_var rfl) ya_nil) trivial) fun _ => y_chainI (f := fun i j => decide (i ≤ j)) (f' := fun i j => decide (i ≤ j)) (Y.loose (y_var rfl)) (Y.loose (y_var rfl)) (Y.loose (y_var rfl))
def Ncheck_web : List Str := ["web"]
theorem sccheck_web : FnScope Ncheck_web ["web"] (defScope scheck_web) := ⟨rfl, rfl, rfl, by decide +kernel, rfl, by decide +kernel, by decide +kernel⟩
abbrev spcheck_web (K : PySem.W.Frag) : Sp := sp1 (fun _ _ => True) (fun n : Net => NT K n) fun _ => Is K ()
theorem ok_check_web (M : Md K mg) : Cal P w K mg base 1 "check_web" ["web"] (spcheck_web K) := by
  obtain ⟨fd, F⟩ := M.dcheck_web
  refine cal_mk F M.ocheck_web sccheck_web (fun _ _ _ _ _ _ us hl => match us, hl with | [_], _ => rfl) (fun _ => rfl) rfl fun cdv A outer s W A' H n Q E hr0 hp ok hQ => ?_
  have nd := sccheck_web.nd
  refine ⟨_,     (pss_cons (ps_if (pt_not (pt_val (pe_callB (k_isi K) (by rfl) M.misinstance (by decide +kernel) (pa_cons (pv 0) (pa_cons (pe_glob (v := .ref (He.ga K "Web")) (by rfl) M.oWeb rfl) pa_nil)))))
      (pss_cons (ps_never)
      pss_nil)
      pss_nil)
    pss_nil), ?_⟩
  dsimp only [cxOf, Cx.nox, Cx.wish]
  show YS ⟨W, A', H, []⟩ [some (NT K n)] [] _ _
  refine ys_if (c := !true) (yt_not (yt_val (K := K) (Y.loose (y_isi (Y.loose (y_var rfl)) (ty_net M) (.own _) M.insC.me)))) (fun h => by cases h) fun _ => ys_then (ys_end hQ fun s H h => h)
def Ncheck_copy : List Str := ["web", "copy"]
theorem sccheck_copy : FnScope Ncheck_copy ["web", "copy"] (defScope scheck_copy) := ⟨rfl, rfl, rfl, by decide +kernel, rfl, by decide +kernel, by decide +kernel⟩
abbrev spcheck_copy (K : PySem.W.Frag) : Sp := sp2 (fun _ (n : Net) x => x ∈ n.heads) (fun n : Net => NT K n) (fun x : Str => Is K x) fun _ _ => Is K ()
theorem ok_check_copy (M : Md K mg) : Cal P w K mg base 1 "check_copy" ["web", "copy"] (spcheck_copy K) := by
  obtain ⟨fd, F⟩ := M.dcheck_copy
  refine cal_mk F M.ocheck_copy sccheck_copy (fun _ _ _ _ _ _ us hl => match us, hl with | [_, _], _ => rfl) (fun _ => rfl) rfl fun cdv A outer s W A' H n Q E hr0 hp ok hQ => ?_
  obtain ⟨n, x⟩ := n
  have hp : x ∈ n.heads := hp
  have hu := hr0.units
  have nd := sccheck_copy.nd
  refine ⟨_,     (pss_cons (ps_if (PW.pt (pw_or (pt_not (pt_val (pe_callB (k_isi K) (by rfl) M.misinstance (by decide +kernel) (pa_cons (pv 1) (pa_cons (pe_bltn (v := .ty "str") (by rfl) M.mstr (by decide +kernel) rfl) pa_nil))))) (pw_or1 (pt_cmpR (k_notIn K Str hu) (pv 1) (k_fld K (pv 0)) rfl))))
      (pss_cons (ps_never)
      pss_nil)
      pss_nil)
    pss_nil), ?_⟩
  dsimp only [cxOf, Cx.nox, Cx.wish]
  show YS ⟨W, A', H, []⟩ [some (NT K n), some (Is K x)] [] _ _
  refine ys_if (c := !true || !inB x n.heads) ?_ (fun h => ?_) fun _ => ys_then (ys_end hQ fun s H h => h)
  · exact yt_or (yt_not (yt_val (K := K) (Y.loose (y_isi (Y.loose (y_var rfl)) ty_str (.ty _) rfl)))) fun _ => yt_test (K := K) (Y.loose (y_notInU (Y.loose (y_var rfl)) (Y.loose (y_heads M (y_var rfl)))))
  · rw [inB_true.mpr hp] at h
    cases h
def Ncheck_line : List Str := ["web", "source", "copy"]
theorem sccheck_line : FnScope Ncheck_line ["web", "source", "copy"] (defScope scheck_line) := ⟨rfl, rfl, rfl, by decide +kernel, rfl, by decide +kernel, by decide +kernel⟩
abbrev spcheck_line (K : PySem.W.Frag) : Sp := sp3 (fun _ (n : Net) x y => x ∈ n.heads ∧ y ∈ n.heads ∧ (x, y) ∈ n.pairs) (fun n : Net => NT K n) (fun x : Str => Is K x) (fun x : Str => Is K x) fun _ _ _ => Is K ()
theorem ok_check_line (M : Md K mg) (ccheck_copy : Cal P w K mg base 1 "check_copy" ["web", "copy"] (spcheck_copy K)) : Cal P w K mg base 2 "check_line" ["web", "source", "copy"] (spcheck_line K) := by
  obtain ⟨fd, F⟩ := M.dcheck_line
  refine cal_mk F M.ocheck_line sccheck_line (fun _ _ _ _ _ _ us hl => match us, hl with | [_, _, _], _ => rfl) (fun _ => rfl) rfl fun cdv A outer s W A' H n Q E hr1 hp ok hQ => ?_
  obtain ⟨n, x, y⟩ := n
  obtain ⟨h1, h2, h3⟩ := hp
  have h3 : (x, y) ∈ n.pairs := h3
  have hu := hr1.units
  have nd := sccheck_line.nd
  refine ⟨_,     (pss_cons (ps_expr (pe_cal ccheck_copy hr1 (by rfl) (pa_cons (pv 0) (pa_cons (pv 1) pa_nil))))
    (pss_cons (ps_expr (pe_cal ccheck_copy hr1 (by rfl) (pa_cons (pv 0) (pa_cons (pv 2) pa_nil))))
    (pss_cons (ps_if (pt_cmpR (k_notIn K (Str × Str) hu) (pe_tup (pa_cons (pv 1) (pa_cons (pv 2) pa_nil))) (k_fld K (pv 0)) rfl)
      (pss_cons (ps_never)
      pss_nil)
      pss_nil)
    pss_nil))), ?_⟩
  dsimp only [cxOf, Cx.nox, Cx.wish]
  show YS ⟨W, A', H, []⟩ [some (NT K n), some (Is K x), some (Is K y)] [] _ _
  refine ys_expr (y_call2 (x := n) (y := x) (ya_cons (y_var rfl) (ya_cons (y_var rfl) ya_nil)) h1) (ys_expr (y_call2 (x := n) (y := y) (ya_cons (y_var rfl) (ya_cons (y_var rfl) ya_nil)) h2) ?_)
  refine ys_if (c := !inB (x, y) n.pairs) ?_ (fun h => ?_) fun _ => ys_then (ys_end hQ fun s H h => h)
  · exact yt_test (K := K) (Y.loose (y_notInU (Y.loose (y_pair (y_var rfl) (y_var rfl))) (Y.loose (y_lnt (y_pairs M (y_var rfl))))))
  · rw [inB_true.mpr h3] at h
    cases h
def Nall_rows : List Str := ["web"]
theorem scall_rows : FnScope Nall_rows ["web"] (defScope sall_rows) := ⟨rfl, rfl, rfl, by decide +kernel, rfl, by decide +kernel, by decide +kernel⟩
abbrev spall_rows (K : PySem.W.Frag) : Sp := sp1 (fun _ _ => True) (fun n : Net => NT K n) fun n => Is K (Tup.mk (n.zz.map Tup.mk))
theorem ok_all_rows (M : Md K mg) : Cal P w K mg base 1 "all_rows" ["web"] (spall_rows K) := by
  obtain ⟨fd, F⟩ := M.dall_rows
  refine cal_mk F M.oall_rows scall_rows (fun _ _ _ _ _ _ us hl => match us, hl with | [_], _ => rfl) (fun _ => rfl) rfl fun cdv A outer s W A' H n Q E hr0 hp ok hQ => ?_
  have nd := scall_rows.nd
  refine ⟨_,     (pss_cons (ps_ret (k_fld K (pv 0)))
    pss_nil), ?_⟩
  dsimp only [cxOf, Cx.nox, Cx.wish]
  show YS ⟨W, A', H, []⟩ [some (NT K n)] [] _ _
  exact ys_ret (y_zz M (y_var rfl)) hQ
def Nnumber_with : List Str := ["web", "fixed", "freed", "found", "row"]
theorem scnumber_with : FnScope Nnumber_with ["web", "fixed", "freed"] (defScope snumber_with) := ⟨rfl, rfl, rfl, by decide +kernel, rfl, by decide +kernel, by decide +kernel⟩
abbrev spnumw (K : PySem.W.Frag) : Sp := sp3 (fun _ (n : Net) _ _ => NetOk n) (fun n : Net => NT K n) (fun f : (Ln → Option Bool) × Nat => DT K f.1 f.2) (fun _ : Unit => fr0 K) fun n f _ => Is K (numWith f.1 n)
theorem ok_number_with (M : Md K mg) (call_rows : Cal P w K mg base 1 "all_rows" ["web"] (spall_rows K)) (cnumber_in : Cal P w K mg base 4 "number_in" ["row", "fixed", "freed"] (spnum K)) : CalD P w K mg base 5 "number_with" ["web", "fixed", "freed"] [.ref (dfr K)] (spnumw K) := by
  obtain ⟨fd, F⟩ := M.dnumber_with
  obtain ⟨ds, hd, hb⟩ := F.binds1 (ps := ["web", "fixed", "freed"]) 2 0 (by intro z; cases z) rfl (fun T kV doc pm an cdv ct us its hu hi => match us, its, hu, hi with | [_, _], [_], _, _ => ⟨_, rfl, rfl⟩)
  refine cald_mk F M.onumber_with scnumber_with hb hd (fun _ => rfl) rfl fun cdv A outer s W A' H i Q E hr4 hp ok hQ => ?_
  obtain ⟨n, ⟨f, m⟩, _⟩ := i
  have hp : NetOk n := hp
  have hr1 := hr4.mono (j := 1) (by decide)
  have nd := scnumber_with.nd
  refine ⟨_,     (pss_cons (ps_set (i := 3) nd rfl (Or.inl rfl) pe_int)
    (pss_cons (ps_for PassesOwn.never rfl (k_tup K (pe_cal call_rows hr1 (by rfl) (pa_cons (pv 0) pa_nil))) (pg_name (i := 4) nd rfl (Or.inl rfl))
      (pss_cons (ps_set (i := 3) nd rfl (Or.inl rfl) (pe_op op_mul (pv 3) (pe_cal cnumber_in hr4 (by rfl) (pa_cons (pv 4) (pa_cons (pv 1) (pa_cons (pv 2) pa_nil))))))
      pss_nil))
    (pss_cons (ps_ret (pv 3))
    pss_nil))), ?_⟩
  dsimp only [cxOf, Cx.nox, Cx.wish]
  show YS ⟨W, A', H, []⟩ [some (NT K n), some (DT K f m), some (Is K (Tup.mk ([] : List Str))), none, none] [] _ _
  refine ys_setD (t := Is K (1 : Int)) y_int ?_
  refine ys_forB K (ι := Int) (xs := n.zz.map Tup.mk) (us := fun _ x => [(4, Is K x)]) (fun k d => d = (n.zz.take k).foldl (fun a r => a * numberIn f r) 1)
    (fun d => [some (NT K n), some (DT K f m), some (Is K (Tup.mk ([] : List Str))), some (Is K d), none]) (fun _ => []) ?_ ?_ ?_ ?_ ?_
  · exact yi_tup (y_call1 (x := n) (ya_cons (y_var rfl) ya_nil) trivial)
  · exact ⟨1, rfl, Wk1.refl _, List.Sublist.refl _⟩
  · exact fun X d x _ => yg_name
  · rintro X k d r hr hd
    rw [List.getElem?_map] at hr
    obtain ⟨r, hr', rfl⟩ := Option.map_eq_some_iff.mp hr
    have hm := List.mem_of_getElem? hr'
    refine ys_setD (t := Is K (d * numberIn f r)) ?_ ?_
    · refine y_opC (f := fun i j => i * j) (Y.loose (y_var rfl)) (Y.loose ?_) (.inr (hp.nb r hm f))
      exact y_call3 (x := r) (y := (f, m)) (z := ()) (ya_cons (y_var rfl) (ya_cons (y_var rfl) (ya_cons (y_var rfl) ya_nil))) ⟨hp.ne r hm, hp.rs r hm⟩
    refine ys_next fun s H a => ⟨d * numberIn f r, ?_, a.weak (.keep (.keep (.keep (.keep (.drop .nil)))))⟩
    rw [foldl_take_succ hr', ← hd]
  · rintro d hd
    rw [List.length_map, List.take_length] at hd
    exact ys_ret (t := Is K (numWith f n)) (Y.to (y_var rfl) hd) hQ
def Ncheck_some : List Str := ["web"]
theorem sccheck_some : FnScope Ncheck_some ["web"] (defScope scheck_some) := ⟨rfl, rfl, rfl, by decide +kernel, rfl, by decide +kernel, by decide +kernel⟩
abbrev spcheck_some (K : PySem.W.Frag) : Sp := spX (fun _ (n : Net) => NetOk n) (fun n => [NT K n]) (fun _ => Is K ()) (fun n => decide (numWith nofix n = 0)) (.ref (He.ga K "NoChoice"))
theorem ok_check_some (M : Md K mg) (cnumber_with : CalD P w K mg base 5 "number_with" ["web", "fixed", "freed"] [.ref (dfr K)] (spnumw K)) : CalX P w K mg base 6 "check_some" ["web"] (spcheck_some K) := by
  obtain ⟨fd, F⟩ := M.dcheck_some
  refine calx_mk F M.ocheck_some sccheck_some (fun _ _ _ _ _ _ us hl => match us, hl with | [_], _ => rfl) (fun _ => rfl) rfl fun cdv A outer s W A' H n Q E hr5 hp ok hQ hE => ?_
  have hu := hr5.units
  have nd := sccheck_some.nd
  refine ⟨_,     (pss_cons (ps_if (pt_cmpR (k_eq K Int hu) (pe_calD cnumber_with hr5 (by rfl) (pa_cons (pv 0) (pa_cons pe_dnewT pa_nil))) pe_int (nomark _))
      (pss_cons (ps_raise rfl (takes_of rfl rfl rfl rfl) (pmk_own0 PySem.F.excBase_ArithmeticError M.more3.2.1.1 M.oNoChoice M.keepNoChoice (raises_own M.more3.2.1.2.1 M.more3.2.1.2.2) (by rfl)))
      pss_nil)
      pss_nil)
    pss_nil), ?_⟩
  dsimp only [cxOf, Cx.nox, Cx.wish]
  show YS ⟨W, A', H, []⟩ [some (NT K n)] [] _ _
  refine ys_if (c := decide (numWith nofix n = 0)) ?_ (fun h => ?_) fun h => ys_then (ys_end (hQ h) fun s H h => h)
  · exact yt_test (K := K) (Y.loose (y_eqT (Y.loose (y_call3D (x := n) (y := (nofix, 0)) (z := ()) (ya_cons (y_var rfl) (ya_cons y_dnewT ya_nil)) (M.dfl) hp)) (Y.loose y_int)))
  · exact ys_raise (hE h)
end
end K29
set_option Elab.async false
set_option linter.all false
set_option maxRecDepth 100000
set_option maxHeartbeats 4000000
/-! The program's defs: weights, best_sum, worth. -/
namespace K29
open PySem PySem.Spec PyProof.Rows L2 G PySem.W
section
variable {P : Program} {w : World} {K : PySem.W.Frag} {mg : Str → Option Value} {base : Heap}
def Ncheck_weights : List Str := ["web", "weights", "k", "weight"]
theorem sccheck_weights : FnScope Ncheck_weights ["web", "weights"] (defScope scheck_weights) := ⟨rfl, rfl, rfl, by decide +kernel, rfl, by decide +kernel, by decide +kernel⟩
abbrev spcheck_weights (K : PySem.W.Frag) : Sp := sp2 (fun _ (n : Net) ws => WsOk n ws) (fun n : Net => NT K n) (fun ws : List Int => Is K (Tup.mk ws)) fun _ _ => Is K ()
theorem ok_check_weights (M : Md K mg) (cis_between : Cal P w K mg base 2 "is_between" ["value", "least", "most"] (spis_between K)) : Cal P w K mg base 3 "check_weights" ["web", "weights"] (spcheck_weights K) := by
  obtain ⟨fd, F⟩ := M.dcheck_weights
  refine cal_mk F M.ocheck_weights sccheck_weights (fun _ _ _ _ _ _ us hl => match us, hl with | [_, _], _ => rfl) (fun _ => rfl) rfl fun cdv A outer s W A' H i Q E hr2 hp ok hQ => ?_
  obtain ⟨n, ws⟩ := i
  have hp : WsOk n ws := hp
  have hu := hr2.units
  have nd := sccheck_weights.nd
  refine ⟨_,     (pss_cons (ps_if (PW.pt (pw_or (pt_not (pt_val (pe_callB (k_isi K) (by rfl) M.misinstance (by decide +kernel) (pa_cons (pv 1) (pa_cons (pe_bltn (v := .ty "tuple") (by rfl) M.mtuple (by decide +kernel) rfl) pa_nil))))) (pw_or1 (pt_cmpR (k_ne K Int hu) (pe_callB (k_len K) (by rfl) M.mlen PySem.boot_len (pa_cons (pv 1) pa_nil)) (pe_callB (k_len K) (by rfl) M.mlen PySem.boot_len (pa_cons (k_fld K (pv 0)) pa_nil)) (nomark _)))))
      (pss_cons (ps_never)
      pss_nil)
      pss_nil)
    (pss_cons (ps_for PassesOwn.never rfl (k_enum K true (by rfl) M.menumerate (pa_cons (pv 1) pa_nil)) (k_pg K (n := 2) (pgs_cons (pg_name (i := 2) nd rfl (Or.inl rfl)) (pgs_cons (pg_name (i := 3) nd rfl (Or.inl rfl)) pgs_nil)))
      (pss_cons (ps_if (pt_not (pt_val (pe_cal cis_between hr2 (by rfl) (pa_cons (pv 3) (pa_cons (pe_un un_neg (pe_gint M.gMOST_WEIGHT (by rfl))) (pa_cons (pe_gint M.gMOST_WEIGHT (by rfl)) pa_nil))))))
        (pss_cons (ps_never)
        pss_nil)
        pss_nil)
      pss_nil))
    pss_nil)), ?_⟩
  dsimp only [cxOf, Cx.nox, Cx.wish]
  show YS ⟨W, A', H, []⟩ [some (NT K n), some (Is K (Tup.mk ws)), none, none] [] _ _
  refine ys_if (c := !true || decide ((ws.length : Int) ≠ (n.pairs.length : Int))) ?_ (fun h => ?_) fun _ => ?_
  · exact yt_or (yt_not (yt_val (K := K) (Y.loose (y_isi (Y.loose (y_var rfl)) ty_tup (.ty _) rfl)))) fun _ => yt_test (K := K) (Y.loose (y_neT (Y.loose (y_lenU (Y.loose (y_var rfl)))) (Y.loose (y_lenU (Y.loose (y_lnt (y_pairs M (y_var rfl))))))))
  · rw [hp.1] at h
    simp at h
  · refine ys_then ?_
    refine ys_forB K (ι := Unit) (xs := enumI ws) (us := fun _ x => [(2, Is K x.1), (3, Is K x.2)]) (fun _ _ => True) (fun _ => [some (NT K n), some (Is K (Tup.mk ws)), none, none]) (fun _ => []) ?_ ?_ ?_ ?_ ?_
    · exact yi_enum (b := true) (ya_cons (y_var rfl) ya_nil)
    · exact ⟨(), trivial, Wk1.refl _, List.Sublist.refl _⟩
    · exact fun X d x _ => yg_pair yg_name yg_name
    · rintro X j _ x hx _
      obtain ⟨y, hy, rfl⟩ := enumI_at hx
      have hb := hp.2 y (List.mem_of_getElem? hy)
      refine ys_if (c := !(decide (-1000000000000 ≤ y) && decide (y ≤ 1000000000000))) ?_ (fun h => ?_) fun _ => ?_
      · exact yt_not (yt_val (K := K) (Y.loose (y_call3 (x := y) (y := (-1000000000000 : Int)) (z := (1000000000000 : Int)) (ya_cons (y_var rfl) (ya_cons (y_neg (Y.loose y_int)) (ya_cons y_int ya_nil))) trivial)))
      · rw [decide_eq_true hb.1, decide_eq_true hb.2] at h
        cases h
      · refine ys_then ?_
        exact ys_next fun s H a => ⟨(), trivial, a.weak (.keep (.keep (.drop (.drop .nil))))⟩
    · rintro _ _
      exact ys_end hQ fun s H h => h
def Ncheck_weighed : List Str := ["web", "weights"]
theorem sccheck_weighed : FnScope Ncheck_weighed ["web", "weights"] (defScope scheck_weighed) := ⟨rfl, rfl, rfl, by decide +kernel, rfl, by decide +kernel, by decide +kernel⟩
abbrev spcheck_weighed (K : PySem.W.Frag) : Sp := sp2 (fun _ (n : Net) ws => NetOk n ∧ WsOk n ws ∧ numWith nofix n ≠ 0) (fun n : Net => NT K n) (fun ws : List Int => Is K (Tup.mk ws)) fun _ _ => Is K ()
theorem ok_check_weighed (M : Md K mg) (ccheck_web : Cal P w K mg base 1 "check_web" ["web"] (spcheck_web K)) (ccheck_weights : Cal P w K mg base 3 "check_weights" ["web", "weights"] (spcheck_weights K)) (ccheck_some : CalX P w K mg base 6 "check_some" ["web"] (spcheck_some K)) :
    Cal P w K mg base 7 "check_weighed" ["web", "weights"] (spcheck_weighed K) := by
  obtain ⟨fd, F⟩ := M.dcheck_weighed
  refine cal_mk F M.ocheck_weighed sccheck_weighed (fun _ _ _ _ _ _ us hl => match us, hl with | [_, _], _ => rfl) (fun _ => rfl) rfl fun cdv A outer s W A' H i Q E hr6 hp ok hQ => ?_
  obtain ⟨n, ws⟩ := i
  obtain ⟨h1, h2, h3⟩ := hp
  have hr1 := hr6.mono (j := 1) (by decide)
  have hr3 := hr6.mono (j := 3) (by decide)
  have nd := sccheck_weighed.nd
  refine ⟨_,     (pss_cons (ps_expr (pe_cal ccheck_web hr1 (by rfl) (pa_cons (pv 0) pa_nil)))
    (pss_cons (ps_expr (pe_cal ccheck_weights hr3 (by rfl) (pa_cons (pv 0) (pa_cons (pv 1) pa_nil))))
    (pss_cons (ps_expr (pe_calX ccheck_some passX0 hr6 (by rfl) (pa_cons (pv 0) pa_nil)))
    pss_nil))), ?_⟩
  dsimp only [cxOf, Cx.nox, Cx.wish]
  show YS ⟨W, A', H, []⟩ [some (NT K n), some (Is K (Tup.mk ws))] [] _ _
  refine ys_expr (y_call1 (x := n) (ya_cons (y_var rfl) ya_nil) trivial) (ys_expr (y_call2 (x := n) (y := ws) (ya_cons (y_var rfl) (ya_cons (y_var rfl) ya_nil)) h2) ?_)
  refine ys_exprX n (ya_cons (y_var rfl) ya_nil) h1 (fun z => absurd (of_decide_eq_true z) h3) fun _ => ys_end hQ fun s H h => h
def Nby_line : List Str := ["web", "weights"]
theorem scby_line : FnScope Nby_line ["web", "weights"] (defScope sby_line) := ⟨rfl, rfl, rfl, by decide +kernel, rfl, by decide +kernel, by decide +kernel⟩
abbrev spby_line (K : PySem.W.Frag) : Sp := sp2 (fun _ (n : Net) ws => NetOk n ∧ WsOk n ws) (fun n : Net => NT K n) (fun ws : List Int => Is K (Tup.mk ws)) fun n ws => DT K (lkZ n.pairs ws) ws.length
theorem ok_by_line (M : Md K mg) : Cal P w K mg base 1 "by_line" ["web", "weights"] (spby_line K) := by
  obtain ⟨fd, F⟩ := M.dby_line
  refine cal_mk F M.oby_line scby_line (fun _ _ _ _ _ _ us hl => match us, hl with | [_, _], _ => rfl) (fun _ => rfl) rfl fun cdv A outer s W A' H i Q E hr0 hp ok hQ => ?_
  obtain ⟨n, ws⟩ := i
  obtain ⟨h1, h2⟩ := hp
  have hu := hr0.units
  have nd := scby_line.nd
  refine ⟨_,     (pss_cons (ps_ret (k_dzip K true true (by rfl) M.mdict (by rfl) M.mzip hu (pa_cons (k_fld K (pv 0)) (pa_cons (pv 1) pa_nil))))
    pss_nil), ?_⟩
  dsimp only [cxOf, Cx.nox, Cx.wish]
  show YS ⟨W, A', H, []⟩ [some (NT K n), some (Is K (Tup.mk ws))] [] _ _
  exact ys_ret (t := DT K (lkZ n.pairs ws) ws.length) (y_dzip (b1 := true) (b2 := true) (ya_cons (y_lnt (y_pairs M (y_var rfl))) (ya_cons (y_var rfl) ya_nil)) h2.1.symm h1.nd) hQ
def Nsums_in : List Str := ["row", "known", "fixed", "setting", "line", "keeps"]
theorem scsums_in : FnScope Nsums_in ["row", "known", "fixed"] (defScope ssums_in) := ⟨rfl, rfl, rfl, by decide +kernel, rfl, by decide +kernel, by decide +kernel⟩
abbrev spsums_in (K : PySem.W.Frag) : Sp := sp3 (fun _ (row : List Ln) (kn : (Ln → Option Int) × Nat) (f : (Ln → Option Bool) × Nat) => row ≠ [] ∧ row.length ≤ 1000 ∧ Few f.1 row ∧ ∀ l, l ∈ row → ∃ x, kn.1 l = some x) (fun row : List Ln => Is K (Tup.mk row)) (fun kn : (Ln → Option Int) × Nat => DT K kn.1 kn.2) (fun f : (Ln → Option Bool) × Nat => DT K f.1 f.2)
  fun row kn f => Is K (sumsIn kn.1 f.1 row)
theorem few_last {f : Ln → Option Bool} {row : List Ln} (h : Few f row) : (settingsOf f row).length ≤ 4000000 := by
  have := h (links row).length
  rw [List.take_length] at this
  exact Nat.le_trans (List.length_filter_le _ _) this
theorem ok_sums_in (M : Md K mg) (csettings_of : Cal P w K mg base 4 "settings_of" ["row", "fixed"] (spset K)) : Cal P w K mg base 5 "sums_in" ["row", "known", "fixed"] (spsums_in K) := by
  obtain ⟨fd, F⟩ := M.dsums_in
  refine cal_mk F M.osums_in scsums_in (fun _ _ _ _ _ _ us hl => match us, hl with | [_, _, _], _ => rfl) (fun _ => rfl) rfl fun cdv A outer s W A' H i Q E hr4 hp ok hQ => ?_
  obtain ⟨row, ⟨kn, m⟩, f, m2⟩ := i
  obtain ⟨h1, h2, h3, h4⟩ := hp
  have h1 : row ≠ [] := h1
  have h2 : row.length ≤ 1000 := h2
  have h3 : Few f row := h3
  have hu := hr4.units
  have hu1 := hu_of hr4
  have nd := scsums_in.nd
  refine ⟨_,     (pss_cons (ps_ret (pe_lc rfl nd (k_list K (pe_cal csettings_of hr4 (by rfl) (pa_cons (pv 0) (pa_cons (pv 2) pa_nil)))) (blkOk_by (N := Nsums_in) (sc := defScope ssums_in) (own := [("setting", 3)]) (by decide +kernel)) (fun _ _ _ _ _ => (pg_name (i := 3) nd rfl (Or.inl rfl))) (fun _ _ _ _ _ => pts_nil) (fun _ _ _ _ _ => (pe_callB (k_sum K) (by rfl) M.msum (by decide +kernel) (pa_cons (pe_lc rfl nd (k_zip K true true (by rfl) M.mzip (pa_cons (pv 0) (pa_cons (pv 3) pa_nil))) (blkOk_by (N := Nsums_in) (own := [("line", 4), ("keeps", 5)]) (by show blkC Nsums_in (relS _ ((defScope ssums_in))) _ _ = true; decide +kernel)) (fun _ _ _ _ _ => (k_pg K (n := 2) (pgs_cons (pg_name (i := 4) nd rfl (Or.inl rfl)) (pgs_cons (pg_name (i := 5) nd rfl (Or.inl rfl)) pgs_nil)))) (fun _ _ _ _ _ => (pts_one (pt_val (pv 5)))) (fun _ _ _ _ _ => (pe_dget hu1 (pv 1) (pv 4) (fun _ _ => rfl)))) pa_nil)))))
    pss_nil), ?_⟩
  dsimp only [cxOf, Cx.nox, Cx.wish]
  show YS ⟨W, A', H, []⟩ [some (Is K (Tup.mk row)), some (DT K kn m), some (DT K f m2), none, none, none] [] _ _
  refine ys_ret (t := Is K (sumsIn kn f row)) (YF.dat (YF.to (yf_lc1 (vs := [3]) (xs := (settingsOf f row).map Tup.mk) (us := fun s => [(3, Is K s)]) (f := fun s => (((row.zip s.items).filter fun p => p.2).map fun p => (kn p.1).getD 0).sum) (yi_list (y_call2 (x := row) (y := (f, m2)) (ya_cons (y_var rfl) (ya_cons (y_var rfl) ya_nil)) (And.intro h1 (And.intro h2 h3)))).loose (by rw [List.length_map, sizeLine_eq]; have := few_last h3; omega) (fun D y _ => ?_) (fun y _ i hi => by simpa using hi) (fun D y hy => ?_)) ?_)) hQ
  · exact yg_name
  · obtain ⟨s, hs, rfl⟩ := List.mem_map.mp hy
    refine y_sum (Y.loose (YF.dat (yf_lc (vs := [4, 5]) (xs := row.zip s) (us := fun q => [(4, Is K q.1), (5, Is K q.2)]) (c := fun q => q.2) (f := fun q => (kn q.1).getD 0) ?_ ?_ (fun D q _ => yg_pair yg_name yg_name) (fun q _ i hi => by simpa using hi) (fun D q _ => ?_) (fun D q hq _ => ?_))))
    · exact (yi_zip (b1 := true) (b2 := true) (ya_cons (y_var rfl) (ya_cons (y_var rfl) ya_nil))).loose
    · rw [List.length_zip, sizeLine_eq]
      have := Nat.min_le_left row.length s.length
      omega
    · exact yt_val (K := K) (Y.loose (y_var rfl))
    · obtain ⟨x, hx⟩ := h4 q.1 (List.of_mem_zip hq).1
      have hx : kn q.1 = some x := hx
      refine Y.to (a := x) ?_ (by rw [hx]; rfl)
      exact y_dgetT (yd_dat (y_var rfl)) (Y.loose (y_var rfl)) hx
  · unfold sumsIn
    rw [List.map_map]
    rfl
def Nbest_with : List Str := ["web", "weights", "fixed", "known", "row"]
theorem scbest_with : FnScope Nbest_with ["web", "weights", "fixed"] (defScope sbest_with) := ⟨rfl, rfl, rfl, by decide +kernel, rfl, by decide +kernel, by decide +kernel⟩
abbrev spbest_with (K : PySem.W.Frag) : Sp := sp3 (fun _ (n : Net) ws (f : (Ln → Option Bool) × Nat) => NetOk n ∧ WsOk n ws ∧ numWith f.1 n ≠ 0) (fun n : Net => NT K n) (fun ws : List Int => Is K (Tup.mk ws)) (fun f : (Ln → Option Bool) × Nat => DT K f.1 f.2) fun n ws f => Is K (bestWith n ws f.1)
theorem ok_best_with (M : Md K mg) (call_rows : Cal P w K mg base 1 "all_rows" ["web"] (spall_rows K)) (cby_line : Cal P w K mg base 1 "by_line" ["web", "weights"] (spby_line K)) (csums_in : Cal P w K mg base 5 "sums_in" ["row", "known", "fixed"] (spsums_in K)) :
    Cal P w K mg base 6 "best_with" ["web", "weights", "fixed"] (spbest_with K) := by
  obtain ⟨fd, F⟩ := M.dbest_with
  refine cal_mk F M.obest_with scbest_with (fun _ _ _ _ _ _ us hl => match us, hl with | [_, _, _], _ => rfl) (fun _ => rfl) rfl fun cdv A outer s W A' H i Q E hr5 hp ok hQ => ?_
  obtain ⟨n, ws, f, m⟩ := i
  obtain ⟨h1, h2, h3⟩ := hp
  have h1 : NetOk n := h1
  have h2 : WsOk n ws := h2
  have h3 : numWith f n ≠ 0 := h3
  have hr1 := hr5.mono (j := 1) (by decide)
  have nd := scbest_with.nd
  refine ⟨_,     (pss_cons (ps_set (i := 3) nd rfl (Or.inr rfl) (pe_cal cby_line hr1 (by rfl) (pa_cons (pv 0) (pa_cons (pv 1) pa_nil))))
    (pss_cons (ps_ret (pe_callB (k_sum K) (by rfl) M.msum (by decide +kernel) (pa_cons (pe_lc rfl nd (k_tup K (pe_cal call_rows hr1 (by rfl) (pa_cons (pv 0) pa_nil))) (blkOk_by (N := Nbest_with) (sc := defScope sbest_with) (own := [("row", 4)]) (by decide +kernel)) (fun _ _ _ _ _ => (pg_name (i := 4) nd rfl (Or.inl rfl))) (fun _ _ _ _ _ => pts_nil) (fun _ _ _ _ _ => (pe_callB (k_max K) (by rfl) M.mmax (by decide +kernel) (pa_cons (pe_cal csums_in hr5 (by rfl) (pa_cons (pv 4) (pa_cons (pv 3) (pa_cons (pv 2) pa_nil)))) pa_nil)))) pa_nil)))
    pss_nil)), ?_⟩
  dsimp only [cxOf, Cx.nox, Cx.wish]
  show YS ⟨W, A', H, []⟩ [some (NT K n), some (Is K (Tup.mk ws)), some (DT K f m), none, none] [] _ _
  refine ys_setD (t := DT K (lkZ n.pairs ws) ws.length) (y_call2 (x := n) (y := ws) (ya_cons (y_var rfl) (ya_cons (y_var rfl) ya_nil)) ⟨h1, h2⟩) ?_
  refine ys_ret (t := Is K (bestWith n ws f)) (Y.to (y_sum (Y.loose (YF.dat (yf_lc1 (vs := [4]) (xs := n.zz.map Tup.mk) (us := fun s => [(4, Is K s)]) (f := fun r => mxI (sumsIn (lkZ n.pairs ws) f r.items)) (yi_tup (y_call1 (x := n) (ya_cons (y_var rfl) ya_nil) trivial)).loose (by rw [List.length_map, sizeLine_eq]; have := h1.zs; omega) (fun D y _ => ?_) (fun y _ i hi => by simpa using hi) (fun D y hy => ?_))))) ?_) hQ
  · exact yg_name
  · obtain ⟨r, hr, rfl⟩ := List.mem_map.mp hy
    refine y_max (Y.loose (y_call3 (x := r) (y := (lkZ n.pairs ws, ws.length)) (z := (f, m)) (ya_cons (y_var rfl) (ya_cons (y_var rfl) (ya_cons (y_var rfl) ya_nil))) ⟨h1.ne r hr, h1.rs r hr, h1.few r hr f, fun l hl => lkZ_some h2.1.symm (h1.rp r hr l hl)⟩)) ?_
    intro z
    have z : (settingsOf f r).map _ = [] := z
    exact h1.num f h3 r hr (List.map_eq_nil_iff.mp z)
  · unfold bestWith
    rw [List.map_map]
    rfl
def Nbest_sum : List Str := ["web", "weights"]
theorem scbest_sum : FnScope Nbest_sum ["web", "weights"] (defScope sbest_sum) := ⟨rfl, rfl, rfl, by decide +kernel, rfl, by decide +kernel, by decide +kernel⟩
abbrev spbest_sum (K : PySem.W.Frag) : Sp := sp2 (fun _ (n : Net) ws => NetOk n ∧ WsOk n ws ∧ numWith nofix n ≠ 0) (fun n : Net => NT K n) (fun ws : List Int => Is K (Tup.mk ws)) fun n ws => Is K (bestWith n ws nofix)
theorem ok_best_sum (M : Md K mg) (ccheck_weighed : Cal P w K mg base 7 "check_weighed" ["web", "weights"] (spcheck_weighed K)) (cbest_with : Cal P w K mg base 6 "best_with" ["web", "weights", "fixed"] (spbest_with K)) : Cal P w K mg base 8 "best_sum" ["web", "weights"] (spbest_sum K) := by
  obtain ⟨fd, F⟩ := M.dbest_sum
  refine cal_mk F M.obest_sum scbest_sum (fun _ _ _ _ _ _ us hl => match us, hl with | [_, _], _ => rfl) (fun _ => rfl) rfl fun cdv A outer s W A' H i Q E hr7 hp ok hQ => ?_
  obtain ⟨n, ws⟩ := i
  obtain ⟨h1, h2, h3⟩ := hp
  have hr6 := hr7.mono (j := 6) (by decide)
  have nd := scbest_sum.nd
  refine ⟨_,     (pss_cons (ps_expr (pe_cal ccheck_weighed hr7 (by rfl) (pa_cons (pv 0) (pa_cons (pv 1) pa_nil))))
    (pss_cons (ps_ret (pe_cal cbest_with hr6 (by rfl) (pa_cons (pv 0) (pa_cons (pv 1) (pa_cons pe_dnewT pa_nil)))))
    pss_nil)), ?_⟩
  dsimp only [cxOf, Cx.nox, Cx.wish]
  show YS ⟨W, A', H, []⟩ [some (NT K n), some (Is K (Tup.mk ws))] [] _ _
  refine ys_expr (y_call2 (x := n) (y := ws) (ya_cons (y_var rfl) (ya_cons (y_var rfl) ya_nil)) ⟨h1, h2, h3⟩) ?_
  exact ys_ret (y_call3 (x := n) (y := ws) (z := (nofix, 0)) (ya_cons (y_var rfl) (ya_cons (y_var rfl) (ya_cons y_dnewT ya_nil))) ⟨h1, h2, h3⟩) hQ
def Nworth : List Str := ["web", "weights", "source", "copy", "line"]
theorem scworth : FnScope Nworth ["web", "weights", "source", "copy"] (defScope sworth) := ⟨rfl, rfl, rfl, by decide +kernel, rfl, by decide +kernel, by decide +kernel⟩
abbrev spworth (K : PySem.W.Frag) : Sp := spX (fun _ (i : Net × List Int × Str × Str) => NetOk i.1 ∧ WsOk i.1 i.2.1 ∧ i.2.2 ∈ i.1.pairs) (fun i => [NT K i.1, Is K (Tup.mk i.2.1), Is K i.2.2.1, Is K i.2.2.2]) (fun i => OI K (worthOf i.1 i.2.1 i.2.2)) (fun i => decide (numWith nofix i.1 = 0)) (.ref (He.ga K "NoChoice"))
theorem ok_worth (M : Md K mg) (ccheck_web : Cal P w K mg base 1 "check_web" ["web"] (spcheck_web K)) (ccheck_weights : Cal P w K mg base 3 "check_weights" ["web", "weights"] (spcheck_weights K)) (ccheck_line : Cal P w K mg base 2 "check_line" ["web", "source", "copy"] (spcheck_line K))
    (ccheck_some : CalX P w K mg base 6 "check_some" ["web"] (spcheck_some K)) (cnumber_with : CalD P w K mg base 5 "number_with" ["web", "fixed", "freed"] [.ref (dfr K)] (spnumw K)) (cbest_with : Cal P w K mg base 6 "best_with" ["web", "weights", "fixed"] (spbest_with K)) :
    CalX P w K mg base 7 "worth" ["web", "weights", "source", "copy"] (spworth K) := by
  obtain ⟨fd, F⟩ := M.dworth
  refine calx_mk F M.oworth scworth (fun _ _ _ _ _ _ us hl => match us, hl with | [_, _, _, _], _ => rfl) (fun _ => rfl) rfl fun cdv A outer s W A' H i Q E hr6 hp ok hQ hE => ?_
  obtain ⟨n, ws, x, y⟩ := i
  obtain ⟨h1, h2, h3⟩ := hp
  have h1 : NetOk n := h1
  have h2 : WsOk n ws := h2
  have h3 : (x, y) ∈ n.pairs := h3
  have hu := hr6.units
  have hr1 := hr6.mono (j := 1) (by decide)
  have hr2 := hr6.mono (j := 2) (by decide)
  have hr3 := hr6.mono (j := 3) (by decide)
  have hr5 := hr6.mono (j := 5) (by decide)
  have nd := scworth.nd
  refine ⟨_,     (pss_cons (ps_expr (pe_cal ccheck_web hr1 (by rfl) (pa_cons (pv 0) pa_nil)))
    (pss_cons (ps_expr (pe_cal ccheck_weights hr3 (by rfl) (pa_cons (pv 0) (pa_cons (pv 1) pa_nil))))
    (pss_cons (ps_expr (pe_cal ccheck_line hr2 (by rfl) (pa_cons (pv 0) (pa_cons (pv 2) (pa_cons (pv 3) pa_nil)))))
    (pss_cons (ps_expr (pe_calX ccheck_some (passes_call (takes_of rfl rfl rfl rfl) fun _ _ _ _ h => h) hr6 (by rfl) (pa_cons (pv 0) pa_nil)))
    (pss_cons (ps_set (i := 4) nd rfl (Or.inl rfl) (pe_tup (pa_cons (pv 2) (pa_cons (pv 3) pa_nil))))
    (pss_cons (ps_if (PW.pt (pw_or (pt_cmpR (k_eq K Int hu) (pe_calD cnumber_with hr5 (by rfl) (pa_cons (pv 0) (pa_cons (pe_dispT hu (pv 4) pe_bl) pa_nil))) pe_int (nomark _)) (pw_or1 (pt_cmpR (k_eq K Int hu) (pe_calD cnumber_with hr5 (by rfl) (pa_cons (pv 0) (pa_cons (pe_dispT hu (pv 4) pe_bl) pa_nil))) pe_int (nomark _)))))
      (pss_cons (ps_ret pe_non)
      pss_nil)
      pss_nil)
    (pss_cons (ps_ret (pe_op op_sub (pe_cal cbest_with hr6 (by rfl) (pa_cons (pv 0) (pa_cons (pv 1) (pa_cons (pe_dispT hu (pv 4) pe_bl) pa_nil)))) (pe_cal cbest_with hr6 (by rfl) (pa_cons (pv 0) (pa_cons (pv 1) (pa_cons (pe_dispT hu (pv 4) pe_bl) pa_nil))))))
    pss_nil))))))), ?_⟩
  dsimp only [cxOf, Cx.nox, Cx.wish]
  show YS ⟨W, A', H, []⟩ [some (NT K n), some (Is K (Tup.mk ws)), some (Is K x), some (Is K y), none] [] _ _
  refine ys_expr (y_call1 (x := n) (ya_cons (y_var rfl) ya_nil) trivial) (ys_expr (y_call2 (x := n) (y := ws) (ya_cons (y_var rfl) (ya_cons (y_var rfl) ya_nil)) h2) (ys_expr (y_call3 (x := n) (y := x) (z := y) (ya_cons (y_var rfl) (ya_cons (y_var rfl) (ya_cons (y_var rfl) ya_nil))) ⟨(h1.hd _ h3).1, (h1.hd _ h3).2, h3⟩) ?_))
  refine ys_exprX n (ya_cons (y_var rfl) ya_nil) h1 hE fun hb => ?_
  have hQ := hQ hb
  refine ys_setD (t := Is K (x, y)) (y_pair (y_var rfl) (y_var rfl)) ?_
  have fx : ∀ b, Y (⟨W, A', H, []⟩ : Bs) [some (NT K n), some (Is K (Tup.mk ws)), some (Is K x), some (Is K y), some (Is K (x, y))] [] (tDispT (tVar 4) (tC (.bl b))) (DT K (onefix (x, y) b) 1) := fun b => y_dispT (fun D => y_var rfl) fun D => y_bl
  refine ys_if (c := decide (numWith (onefix (x, y) true) n = 0) || decide (numWith (onefix (x, y) false) n = 0)) ?_ (fun h => ?_) fun h => ?_
  · refine yt_or (yt_test (K := K) (Y.loose (y_eqT (Y.loose ?_) (Y.loose y_int)))) fun _ => yt_test (K := K) (Y.loose (y_eqT (Y.loose ?_) (Y.loose y_int)))
    · exact y_call3D (x := n) (y := (onefix (x, y) true, 1)) (z := ()) (ya_cons (y_var rfl) (ya_cons (fx true) ya_nil)) (M.dfl) h1
    · exact y_call3D (x := n) (y := (onefix (x, y) false, 1)) (z := ()) (ya_cons (y_var rfl) (ya_cons (fx false) ya_nil)) (M.dfl) h1
  · have e : worthOf n ws (x, y) = none := by
      unfold worthOf
      rw [if_pos h]
    have hQ : Rt _ (OI K (worthOf n ws (x, y))) _ := hQ
    rw [e] at hQ
    exact ys_ret (t := Vl .non) y_vl hQ
  · have e : worthOf n ws (x, y) = some (bestWith n ws (onefix (x, y) true) - bestWith n ws (onefix (x, y) false)) := by
      unfold worthOf
      rw [if_neg (by rw [h]; exact Bool.false_ne_true)]
    have hQ : Rt _ (OI K (worthOf n ws (x, y))) _ := hQ
    rw [e] at hQ
    have hz := Bool.or_eq_false_iff.mp h
    refine ys_then (ys_ret (t := Is K (bestWith n ws (onefix (x, y) true) - bestWith n ws (onefix (x, y) false))) ?_ hQ)
    refine y_opI (f := fun i j => i - j) (Y.loose (y_call3 (x := n) (y := ws) (z := (onefix (x, y) true, 1)) (ya_cons (y_var rfl) (ya_cons (y_var rfl) (ya_cons (fx true) ya_nil))) ?_)) (Y.loose (y_call3 (x := n) (y := ws) (z := (onefix (x, y) false, 1)) (ya_cons (y_var rfl) (ya_cons (y_var rfl) (ya_cons (fx false) ya_nil))) ?_))
    · exact ⟨h1, h2, of_decide_eq_false hz.1⟩
    · exact ⟨h1, h2, of_decide_eq_false hz.2⟩
end
end K29
set_option Elab.async false
set_option linter.all false
set_option maxRecDepth 100000
set_option maxHeartbeats 4000000
/-! The program's defs: a web's text read. -/
namespace K29
open PySem PySem.Spec PyProof.Rows L2 G PySem.W
/-! ### what is read -/
def lets : Str := "abcdefghijklmnopqrstuvwxyz"
def NmOk (z : Str) : Prop := 1 ≤ z.length ∧ z.length ≤ 8 ∧ ∀ c, c ∈ z.cps.toList → c ∈ lets.cps.toList
def rowText (r : NRow) : Str := Txt.join " " (r.1 :: r.2)
def webText (rows : List NRow) : Str := Txt.join "; " (rows.map rowText)
def usedOf (rows : List NRow) : List Str := rows.flatMap (·.2)
structure RowsOk (rows : List NRow) : Prop where
  nm : ∀ r, r ∈ rows → NmOk r.1
  nd : (rows.map (·.1)).Nodup
  hd : ∀ r, rows[0]? = some r → r.2 = []
  src : ∀ (i : Nat) (r : NRow), rows[i]? = some r → 0 < i → 1 ≤ r.2.length ∧ r.2.length ≤ 2 ∧ r.2.Nodup ∧ ∀ s, s ∈ r.2 → s ∈ (rows.take i).map (·.1)
  use : ∀ x, (usedOf rows).countP (fun y => decide (y = x)) ≤ 2
  len : rows.length ≤ 40
structure TxtOk (rows : List NRow) : Prop where
  s1 : Txt.split (webText rows) "; " = rows.map rowText
  s2 : ∀ r, r ∈ rows → Txt.split (rowText r) " " = r.1 :: r.2
  z1 : (webText rows).length + 2 ≤ sizeLine
  z2 : ∀ r, r ∈ rows → (rowText r).length + 2 ≤ sizeLine
theorem all_true {α : Type} {f : α → Bool} {xs : List α} (h : ∀ x, x ∈ xs → f x = true) : (xs.map f).all id = true := by
  rw [List.all_map]
  exact List.all_eq_true.mpr h
theorem any_false {α : Type} {f : α → Bool} {xs : List α} (h : ∀ x, x ∈ xs → f x = false) : (xs.map f).any id = false := by
  rw [List.any_map]
  exact List.any_eq_false.mpr fun x hx => by show ¬ f x = true; rw [h x hx]; exact Bool.false_ne_true
section
variable {P : Program} {w : World} {K : PySem.W.Frag} {mg : Str → Option Value} {base : Heap}
def Nis_name : List Str := ["value", "sign"]
theorem scis_name : FnScope Nis_name ["value"] (defScope sis_name) := ⟨rfl, rfl, rfl, by decide +kernel, rfl, by decide +kernel, by decide +kernel⟩
abbrev spis_name (K : PySem.W.Frag) : Sp := sp1 (fun _ z => NmOk z) (fun z : Str => Is K z) fun _ => Is K true
theorem ok_is_name (M : Md K mg) : Cal P w K mg base 1 "is_name" ["value"] (spis_name K) := by
  obtain ⟨fd, F⟩ := M.dis_name
  refine cal_mk F M.ois_name scis_name (fun _ _ _ _ _ _ us hl => match us, hl with | [_], _ => rfl) (fun _ => rfl) rfl fun cdv A outer s W A' H z Q E hr0 hp ok hQ => ?_
  obtain ⟨h1, h2, h3⟩ := hp
  have hu := hr0.units
  have nd := scis_name.nd
  refine ⟨_,     (pss_cons (ps_ret (pe_and (pe_callB (k_isi K) (by rfl) M.misinstance (by decide +kernel) (pa_cons (pv 0) (pa_cons (pe_bltn (v := .ty "str") (by rfl) M.mstr (by decide +kernel) rfl) pa_nil))) (pe_and (pe_chain op_le op_le pe_int (pe_callB call_len_str (by rfl) M.mlen PySem.boot_len (pa_cons (pv 0) pa_nil)) pe_int) (pe_one (pe_callB (k_all K) (by rfl) M.mall (by decide +kernel) (pa_cons (pe_lc rfl nd (pi_str (pv 0)) (blkOk_by (N := Nis_name) (sc := defScope sis_name) (own := [("sign", 1)]) (by decide +kernel)) (fun _ _ _ _ _ => (pg_name (i := 1) nd rfl (Or.inl rfl))) (fun _ _ _ _ _ => pts_nil) (fun _ _ _ _ _ => (pe_cmpR op_in_sign (pv 1) (pe_gstr M.gLETTERS (by rfl)) rfl))) pa_nil))))))
    pss_nil), ?_⟩
  dsimp only [cxOf, Cx.nox, Cx.wish]
  show YS ⟨W, A', H, []⟩ [some (Is K z), none] [] _ _
  have hz : z.length ≤ sizeLine := by rw [sizeLine_eq]; omega
  have hz' : z.cps.toList.length ≤ sizeLine := by rw [Array.length_toList]; exact hz
  refine ys_ret (t := Is K true) (Y.to (a := true && ((decide ((1 : Int) ≤ (z.length : Int)) && decide ((z.length : Int) ≤ 8)) && ((z.cps.toList.map fun c => decide (c ∈ lets.cps.toList)).all id))) ?_ ?_) hQ
  · refine y_andV (y_isi (Y.loose (y_var rfl)) ty_str (.ty _) rfl) fun _ => y_andV (y_chainI (f := fun i j => decide (i ≤ j)) (f' := fun i j => decide (i ≤ j)) (Y.loose y_int) (Y.loose (y_lenS (Y.loose (y_var rfl)) hz)) (Y.loose y_int)) fun _ => ?_
    refine y_all (Y.loose (YF.dat (YF.to (yf_lc1 (vs := [1]) (xs := z.cps.toList.map fun c => (⟨#[c]⟩ : Str)) (us := fun y => [(1, Is K y)]) (f := fun x : Str => decide (x.cps.toList.headD 0 ∈ lets.cps.toList)) (yi_str (y_var rfl)).loose (by rw [List.length_map]; exact hz') (fun D y _ => yg_name) (fun y _ i hi => by simpa using hi) (fun D y hy => ?_)) ?_)))
    · obtain ⟨c, hc, rfl⟩ := List.mem_map.mp hy
      exact y_inSign (Y.loose (y_var rfl)) (Y.loose y_str)
    · rw [List.map_map]
      rfl
  · rw [all_true fun c hc => decide_eq_true (h3 c hc), decide_eq_true (by omega : (1 : Int) ≤ (z.length : Int)), decide_eq_true (by omega : (z.length : Int) ≤ 8)]
    rfl
def Nare_sources : List Str := ["values", "names", "value"]
theorem scare_sources : FnScope Nare_sources ["values", "names"] (defScope sare_sources) := ⟨rfl, rfl, rfl, by decide +kernel, rfl, by decide +kernel, by decide +kernel⟩
abbrev spare_sources (K : PySem.W.Frag) : Sp := sp2 (fun _ (xs : List Str) (kvs : List NRow) => 1 ≤ xs.length ∧ xs.length ≤ 2 ∧ xs.Nodup ∧ ∀ x, x ∈ xs → x ∈ kvs.map (·.1)) (fun xs : List Str => Is K xs) (fun kvs : List NRow => DS K kvs) fun _ _ => Is K true
theorem ok_are_sources (M : Md K mg) : Cal P w K mg base 1 "are_sources" ["values", "names"] (spare_sources K) := by
  obtain ⟨fd, F⟩ := M.dare_sources
  refine cal_mk F M.oare_sources scare_sources (fun _ _ _ _ _ _ us hl => match us, hl with | [_, _], _ => rfl) (fun _ => rfl) rfl fun cdv A outer s W A' H i Q E hr0 hp ok hQ => ?_
  obtain ⟨xs, kvs⟩ := i
  obtain ⟨h1, h2, h3, h4⟩ := hp
  have h1 : 1 ≤ xs.length := h1
  have h2 : xs.length ≤ 2 := h2
  have h3 : xs.Nodup := h3
  have h4 : ∀ x, x ∈ xs → x ∈ kvs.map (·.1) := h4
  have hu := hr0.units
  have hu1 := hu_of hr0
  have nd := scare_sources.nd
  refine ⟨_,     (pss_cons (ps_if (PW.pt (pw_or (pt_not (pt_chain op_le op_le pe_int (pe_callB (k_len K) (by rfl) M.mlen PySem.boot_len (pa_cons (pv 0) pa_nil)) pe_int)) (pw_or1 (pt_not (pt_val (pe_callB (k_all K) (by rfl) M.mall (by decide +kernel) (pa_cons (pe_lc rfl nd (k_list K (pv 0)) (blkOk_by (N := Nare_sources) (sc := defScope sare_sources) (own := [("value", 2)]) (by decide +kernel)) (fun _ _ _ _ _ => (pg_name (i := 2) nd rfl (Or.inl rfl))) (fun _ _ _ _ _ => pts_nil) (fun _ _ _ _ _ => (pe_and (pe_callB (k_isi K) (by rfl) M.misinstance (by decide +kernel) (pa_cons (pv 2) (pa_cons (pe_bltn (v := .ty "str") (by rfl) M.mstr (by decide +kernel) rfl) pa_nil))) (pe_one (pe_cmp (pc_din hu1 (pv 2) (pv 1))))))) pa_nil)))))))
      (pss_cons (ps_ret pe_bl)
      pss_nil)
      pss_nil)
    (pss_cons (ps_ret (pe_cmpR (k_eq K Int hu) (k_lenSetN K (by rfl) M.mlen (by rfl) M.mset (pv 0)) (pe_callB (k_len K) (by rfl) M.mlen PySem.boot_len (pa_cons (pv 0) pa_nil)) (nomark _)))
    pss_nil)), ?_⟩
  dsimp only [cxOf, Cx.nox, Cx.wish]
  show YS ⟨W, A', H, []⟩ [some (Is K xs), some (DS K kvs), none] [] _ _
  refine ys_if (c := !(decide ((1 : Int) ≤ (xs.length : Int)) && decide ((xs.length : Int) ≤ 2)) || !((xs.map fun x => true && inB x (kvs.map (·.1))).all id)) ?_ (fun h => ?_) fun _ => ?_
  · refine yt_or (yt_not (yt_test (K := K) (Y.loose (y_chainI (f := fun i j => decide (i ≤ j)) (f' := fun i j => decide (i ≤ j)) (Y.loose y_int) (Y.loose (y_lenL (Y.loose (y_var rfl)))) (Y.loose y_int))))) fun _ => yt_not (yt_val (K := K) (Y.loose ?_))
    refine y_all (Y.loose (YF.dat (yf_lc1 (vs := [2]) (xs := xs) (us := fun y => [(2, Is K y)]) (f := fun x => true && inB x (kvs.map (·.1))) (yi_list (y_var rfl)).loose (by rw [sizeLine_eq]; omega) (fun D y _ => yg_name) (fun y _ i hi => by simpa using hi) (fun D y hy => ?_))))
    exact y_andV (y_isi (Y.loose (y_var rfl)) ty_str (.ty _) rfl) fun _ => y_dinS (Y.loose (y_var rfl)) (Y.loose (y_var rfl))
  · rw [all_true fun x hx => by rw [inB_true.mpr (h4 x hx)]; rfl, decide_eq_true (by omega : (1 : Int) ≤ (xs.length : Int)), decide_eq_true (by omega : (xs.length : Int) ≤ 2)] at h
    cases h
  · refine ys_then (ys_ret (t := Is K true) (Y.to (a := decide ((xs.length : Int) = (xs.length : Int))) (y_eqT (Y.loose (y_lenSetN (Y.loose (y_var rfl)) h3 (by omega))) (Y.loose (y_lenL (Y.loose (y_var rfl))))) (decide_eq_true rfl)) hQ)
def Nweb_in : List Str := ["text", "found", "part", "words", "used", "sources", "source", "name"]
theorem scweb_in : FnScope Nweb_in ["text"] (defScope sweb_in) := ⟨rfl, rfl, rfl, by decide +kernel, rfl, by decide +kernel, by decide +kernel⟩
abbrev spweb_in (K : PySem.W.Frag) : Sp := sp1 (fun _ (rows : List NRow) => RowsOk rows ∧ TxtOk rows) (fun rows : List NRow => Is K (webText rows)) fun rows => Is K (Tup.mk (rows.map fun q => (q.1, Tup.mk q.2)))
theorem ok_web_in (M : Md K mg) (cis_name : Cal P w K mg base 1 "is_name" ["value"] (spis_name K)) (care_sources : Cal P w K mg base 1 "are_sources" ["values", "names"] (spare_sources K)) : Cal P w K mg base 2 "web_in" ["text"] (spweb_in K) := by
  obtain ⟨fd, F⟩ := M.dweb_in
  refine cal_mk F M.oweb_in scweb_in (fun _ _ _ _ _ _ us hl => match us, hl with | [_], _ => rfl) (fun _ => rfl) rfl fun cdv A outer s W A' H rows Q E hr1 hp ok hQ => ?_
  obtain ⟨ro, tx⟩ := hp
  have hu := hr1.units
  have hu1 := hu_of hr1
  have hu0 := Nat.lt_of_le_of_lt (Nat.le_add_right _ 64) hu
  have nd := scweb_in.nd
  refine ⟨_,     (pss_cons (ps_if (pt_not (pt_val (pe_callB (k_isi K) (by rfl) M.misinstance (by decide +kernel) (pa_cons (pv 0) (pa_cons (pe_bltn (v := .ty "str") (by rfl) M.mstr (by decide +kernel) rfl) pa_nil)))))
      (pss_cons (ps_ret pe_non)
      pss_nil)
      pss_nil)
    (pss_cons (ps_set (i := 1) nd rfl (Or.inl rfl) pe_dnewK)
    (pss_cons (ps_for PassesOwn.never rfl (k_list K (pe_split (pv 0) pe_str)) (pg_name (i := 2) nd rfl (Or.inl rfl))
      (pss_cons (ps_set (i := 3) nd rfl (Or.inl rfl) (pe_split (pv 2) pe_str))
      (pss_cons (ps_if (PW.pt (pw_or (pt_not (pt_val (pe_cal cis_name hr1 (by rfl) (pa_cons (pe_ix (k_ixL K) (pv 3) pe_int (fun _ _ => rfl)) pa_nil)))) (pw_or1 (pt_cmp (pc_din hu1 (pe_ix (k_ixL K) (pv 3) pe_int (fun _ _ => rfl)) (pv 1))))))
        (pss_cons (ps_ret pe_non)
        pss_nil)
        pss_nil)
      (pss_cons (ps_if (PW.pt (pw_or (PW.pt (pw_and (pt_cmpR (op_eqE hu0) (pv 1) pe_dnewK (nomark _)) (pw_and1 (pt_cmpR op_gt (pe_callB (k_len K) (by rfl) M.mlen PySem.boot_len (pa_cons (pv 3) pa_nil)) pe_int (nomark _))))) (pw_or1 (PW.pt (pw_and (pt_cmpR (op_neE hu0) (pv 1) pe_dnewK (nomark _)) (pw_and1 (pt_not (pt_val (pe_cal care_sources hr1 (by rfl) (pa_cons (pe_slice (k_slL K) (pv 3) (po_some pe_int) po_none) (pa_cons (pv 1) pa_nil)))))))))))
        (pss_cons (ps_ret pe_non)
        pss_nil)
        pss_nil)
      (pss_cons (ps_dput hu1 (pv 1) (pe_ix (k_ixL K) (pv 3) pe_int (fun _ _ => rfl)) (pe_callTy (k_tupOf K) (by rfl) M.mtuple (by decide +kernel) (pa_cons (pe_slice (k_slL K) (pv 3) (po_some pe_int) po_none) pa_nil)) rfl)
      pss_nil)))))
    (pss_cons (ps_set (i := 4) nd rfl (Or.inr rfl) (pe_lock (pe_lc2 rfl nd (pi_values (pv 1)) (blkOk_by (N := Nweb_in) (sc := defScope sweb_in) (own := [("sources", 5), ("source", 6)]) (by decide +kernel)) (vs1 := [6]) (by decide) (fun _ _ _ _ _ => (pg_name (i := 5) nd rfl (Or.inl rfl))) (fun _ _ _ _ _ => pts_nil) (fun _ _ _ _ _ => (k_tup K (pv 5))) (fun _ _ _ _ _ => (pg_name (i := 6) nd rfl (Or.inl rfl))) (fun _ _ _ _ _ => pts_nil) (fun _ _ _ _ _ => (pv 6)))))
    (pss_cons (ps_if (PW.pt (pw_or (pt_cmpR op_gt (pe_callB call_lenD (by rfl) M.mlen PySem.boot_len (pa_cons (pv 1) pa_nil)) (pe_gint M.gMOST_COPIES (by rfl)) (nomark _)) (pw_or1 (pt_val (pe_callB (k_any K) (by rfl) M.many (by decide +kernel) (pa_cons (pe_lock (pe_lc rfl nd (pi_keys (pv 1)) (blkOk_by (N := Nweb_in) (sc := defScope sweb_in) (own := [("name", 7)]) (by decide +kernel)) (fun _ _ _ _ _ => (pg_name (i := 7) nd rfl (Or.inl rfl))) (fun _ _ _ _ _ => pts_nil) (fun _ _ _ _ _ => (pe_cmpR op_gt (k_bm K PySem.F.plainAttrs_list PySem.F.slot_list_count PySem.F.type_list_count (k_count K Str hu) (pv 4) (pa_cons (pv 7) pa_nil)) pe_int (nomark _))))) pa_nil))))))
      (pss_cons (ps_ret pe_non)
      pss_nil)
      pss_nil)
    (pss_cons (ps_ret (pe_tupItems rfl (pv 1) (by rfl) M.mtuple (by decide +kernel)))
    pss_nil)))))), ?_⟩
  dsimp only [cxOf, Cx.nox, Cx.wish]
  show YS ⟨W, A', H, []⟩ [some (Is K (webText rows)), none, none, none, none, none, none, none] [] _ _
  refine ys_if (c := !true) (yt_not (yt_val (K := K) (Y.loose (y_isi (Y.loose (y_var rfl)) ty_str (.ty _) rfl)))) (fun h => by cases h) fun _ => ys_then ?_
  refine ys_set (yo_dnewK (K := K)) ?_
  rintro _ _ ⟨p, rfl, rfl⟩
  refine ys_forB K (ι := List NRow) (xs := rows.map rowText) (us := fun _ x => [(2, Is K x)]) (fun k d => d = rows.take k) (fun _ => [some (Is K (webText rows)), some (Vl (.ref p)), none, none, none, none, none, none]) (fun d => [(p, LoS K d)]) ?_ ?_ ?_ ?_ ?_
  · exact yi_list (YF.dat (YF.to (yf_split (Y.loose (y_var rfl)) (Y.loose y_str) (by decide) tx.z1) tx.s1))
  · exact ⟨[], by rw [List.take_zero], Wk1.refl _, List.Sublist.refl _⟩
  · exact fun X d x _ => yg_name
  · rintro X k d _ hx hd
    rw [List.getElem?_map] at hx
    obtain ⟨r, hr, rfl⟩ := Option.map_eq_some_iff.mp hx
    have hk : k < rows.length := (List.getElem?_eq_some_iff.mp hr).1
    have hm := List.mem_of_getElem? hr
    have dl : d.length = k := by rw [hd, List.length_take]; omega
    have hl := ro.len
    have wl : (r.1 :: r.2).length ≤ 3 := by
      rw [List.length_cons]
      by_cases z : 0 < k
      · have := (ro.src k r hr z).2.1
        omega
      · have z : k = 0 := by omega
        subst z
        rw [ro.hd r hr]
        exact Nat.le_of_ble_eq_true rfl
    have nin : r.1 ∉ d.map (·.1) := by
      rw [hd, List.map_take]
      intro z
      obtain ⟨j, hj, e⟩ := List.mem_iff_getElem.mp z
      rw [List.length_take, List.length_map] at hj
      rw [List.getElem_take] at e
      have e2 : (rows.map (·.1))[k]'(by rw [List.length_map]; exact hk) = r.1 := by
        rw [List.getElem_map, (List.getElem?_eq_some_iff.mp hr).2]
      exact List.pairwise_iff_getElem.mp ro.nd j k (by rw [List.length_map]; omega) (by rw [List.length_map]; exact hk) (by omega) (e.trans e2.symm)
    have at0 : atI (r.1 :: r.2) (0 : Int) = some r.1 := atI_nat (xs := r.1 :: r.2) (j := 0) rfl
    refine ys_setD (t := Is K (r.1 :: r.2)) (YF.dat (YF.to (yf_split (Y.loose (y_var rfl)) (Y.loose y_str) (by decide) (tx.z2 r hm)) (tx.s2 r hm))) ?_
    refine ys_if (c := !true || inB r.1 (d.map (·.1))) ?_ (fun h => ?_) fun _ => ys_then ?_
    · refine yt_or (yt_not (yt_val (K := K) (Y.loose (y_call1 (x := r.1) (ya_cons (y_ixL (Y.q (y_var rfl)) (Y.loose y_int) at0) ya_nil) (ro.nm r hm))))) fun _ => yt_val (K := K) (Y.loose (y_dinS (Y.loose (y_ixL (Y.q (y_var rfl)) (Y.loose y_int) at0)) (yl_locS (j := 0) rfl rfl)))
    · rw [inB_false.mpr nin] at h
      cases h
    have cut1 : cutL (r.1 :: r.2) (some 1) none = r.2 := by rw [cutL_1d]; rfl
    refine ys_if (c := (decide (d = []) && decide ((1 : Int) < ((r.1 :: r.2).length : Int))) || (!decide (d = []) && !true)) ?_ (fun h => ?_) fun _ => ys_then ?_
    · refine yt_or (yt_and (yt_test (K := K) (Y.loose (y_eqE (K := K) (yl_locS (j := 0) rfl rfl) (Y.loose y_dnewK)))) fun _ => yt_test (K := K) (Y.loose (y_opB (f := fun i j => decide (j < i)) (Y.loose (y_lenL (Y.loose (y_var rfl)))) (Y.loose y_int)))) fun _ => yt_and (yt_test (K := K) (Y.loose (y_neE (K := K) (yl_locS (j := 0) rfl rfl) (Y.loose y_dnewK)))) fun hne => yt_not (yt_val (K := K) (Y.loose ?_))
      have z : 0 < k := by
        by_cases z : k = 0
        · rw [z] at dl
          rw [List.eq_nil_of_length_eq_zero dl] at hne
          cases hne
        · omega
      obtain ⟨s1, s2, s3, s4⟩ := ro.src k r hr z
      refine y_callL2 (x := r.2) (y := d) (yal_cons (Y.loose (YF.dat (YF.to (yf_slL (Y.q (y_var rfl)) (yo_some (K := K) (Y.loose y_int)) yo_no) cut1))) (yal_cons (yl_locS (j := 0) rfl rfl) yal_nil)) ⟨s1, s2, s3, by rw [hd]; exact s4⟩ rfl
    · have e : (!decide (d = []) && !true) = false := by rw [Bool.not_true, Bool.and_false]
      rw [e, Bool.or_false] at h
      obtain ⟨e1, e2⟩ := Bool.and_eq_true_iff.mp h
      have e1 := of_decide_eq_true e1
      have e2 := of_decide_eq_true e2
      rw [e1] at dl
      have dl : 0 = k := dl
      subst dl
      rw [ro.hd r hr] at e2
      have e2 : (1 : Int) < (([r.1] : List Str).length : Int) := e2
      rw [List.length_singleton] at e2
      exact absurd e2 (by decide)
    refine ys_dputS (j := 0) (kvs := d) (x := r.1) (ys := r.2) rfl rfl (y_ixL (Y.q (y_var rfl)) (Y.loose y_int) at0) (y_tupL (Y.q (YF.dat (YF.to (yf_slL (Y.q (y_var rfl)) (yo_some (K := K) (Y.loose y_int)) yo_no) cut1)))) nin (by rw [sizeLine_eq]; omega) ?_
    refine ys_next fun s H a => ⟨d ++ [r], ?_, a.weak (.keep (.keep (.drop (.drop (.keep (.keep (.keep (.keep .nil))))))))⟩
    rw [List.take_succ_eq_append_getElem hk, ← hd, (List.getElem?_eq_some_iff.mp hr).2]
  · rintro d hd
    rw [List.length_map, List.take_length] at hd
    subst hd
    have hl := ro.len
    have rs : ∀ r, r ∈ d → r.2.length ≤ 2 := fun r hr => by
      obtain ⟨k, hk⟩ := List.mem_iff_getElem?.mp hr
      by_cases z : 0 < k
      · exact (ro.src k r hk z).2.1
      · have z : k = 0 := by omega
        subst z
        rw [ro.hd r hk]
        exact Nat.zero_le _
    refine ys_setD (t := Is K (usedOf d)) (y_lockE (j := 0) rfl fun od us => YF.dat (YF.to (yf_lc2 (vs := [5, 6]) (vs1 := [6]) (xs := d.map fun q => Tup.mk q.2) (zs := fun t => t.items) (us := fun t => [(5, Is K t)]) (us1 := fun _ z => [(6, Is K z)]) (c := fun _ => true) (c1 := fun _ _ => true) (f := fun _ z => z)
      (yi_valsS (j := 0) rfl rfl) ?_ (fun D y _ => yg_name) (fun y _ i hi => by rw [show i = 5 by simpa using hi]; exact List.mem_cons_self) (fun D y _ => yt_yes) (fun D y _ _ => yi_tup (y_var rfl)) (fun D y z _ _ => yg_name) (fun y z _ _ i hi => by simpa using hi) (fun D y z _ _ _ => yt_yes) (fun D y z _ _ _ _ => y_var rfl)) ?_)) ?_
    · rw [List.map_map]
      have h2 : ∀ (l : List NRow), (∀ r, r ∈ l → r.2.length ≤ 2) → (l.map ((fun t : Tup Str => t.items.length) ∘ fun q => Tup.mk q.2)).sum ≤ l.length * 2 := by
        intro l
        induction l with
        | nil => intro _; exact Nat.zero_le _
        | cons r l ih =>
          intro h
          have a := ih fun x hx => h x (List.mem_cons_of_mem _ hx)
          have b := h r List.mem_cons_self
          rw [List.map_cons, List.sum_cons, List.length_cons]
          show r.2.length + _ ≤ _
          omega
      have := h2 d rs
      rw [sizeLine_eq]
      show (List.map ((fun t : Tup Str => t.items.length) ∘ fun q : NRow => Tup.mk q.2) d).sum ≤ _
      omega
    · have fl : ∀ {α : Type} (l : List α), l.filter (fun _ => true) = l := fun l => List.filter_eq_self.mpr fun _ _ => rfl
      unfold usedOf
      rw [fl, List.flatMap_map]
      congr 1
      funext q
      rw [fl, List.map_id']
    refine ys_if (c := decide ((40 : Int) < (d.length : Int)) || (((d.map (·.1)).map fun x => decide ((2 : Int) < ((usedOf d).countP (fun y => decide (y = x)) : Int))).any id)) ?_ (fun h => ?_) fun _ => ys_then ?_
    · refine yt_or (yt_test (K := K) (Y.loose (y_opB (f := fun i j => decide (j < i)) (Y.loose (y_lenS' (K := K) (yl_locS (j := 0) rfl rfl))) (Y.loose y_int)))) fun _ => yt_val (K := K) (Y.loose (y_any (Y.loose (y_lockE (j := 0) rfl fun od us => YF.dat (yf_lc1 (vs := [7]) (xs := d.map (·.1)) (us := fun y => [(7, Is K y)]) (f := fun x => decide ((2 : Int) < ((usedOf d).countP (fun y => decide (y = x)) : Int)))
        (yi_keysS (j := 0) rfl rfl) (by rw [List.length_map, sizeLine_eq]; omega) (fun D y _ => yg_name) (fun y _ i hi => by simpa using hi) (fun D y _ => ?_))))))
      exact y_opB (f := fun i j => decide (j < i)) (Y.loose (y_count (Y.loose (y_var rfl)) (Y.loose (y_var rfl)))) (Y.loose y_int)
    · rw [any_false fun x _ => decide_eq_false (by have := ro.use x; omega), decide_eq_false (by omega : ¬ (40 : Int) < (d.length : Int))] at h
      cases h
    · exact ys_ret (t := Is K (Tup.mk (d.map fun q => (q.1, Tup.mk q.2)))) (y_tupItems (j := 0) rfl rfl) hQ
end
end K29
set_option Elab.async false
set_option linter.all false
set_option maxRecDepth 100000
set_option maxHeartbeats 4000000
/-! Web.__init__, Web(text). -/
namespace G
open PySem PySem.Spec PyProof.Rows L2 PySem.W
/-- an instance whose fields are told (the newest first) -/
def LoI (C : Addr) (fl : List (Str × Sl)) : Lo := ⟨fun o H => ∃ dx fs, o = .ins C dx fs ∧ fs.length ≤ fl.length ∧ ∀ q, q ∈ fl → ∃ v, fs.lookup q.1 = some v ∧ q.2.p v H,
  fun e ⟨dx, fs, h0, h1, h2⟩ => ⟨dx, fs, h0, h1, fun q hq => (h2 q hq).imp fun _ z => ⟨z.1, q.2.mono e z.2⟩⟩⟩
section
variable {K : PySem.W.Frag} {B : Bs} {g : Slots} {L : Ls} {tv : TE} {t : Sl} {D : Ends} {rest : TS} {i j : Nat} {p C : Addr} {fl : List (Str × Sl)} {f : Str}
theorem ys_sfld (h : g[i]? = some (some (Vl (.ref p)))) (hl : L[j]? = some (p, LoI C fl)) (hv : Y B g L tv t) (hc : Cls K C) (hn : NoAttr K C f) (hf : f ∉ fl.map (·.1)) (hz : fl.length < 1000) (k : YS B g (L.set j (p, LoI C ((f, t) :: fl))) rest D) : YS B g L (tSeq (sFld K (tVar i) tv f) rest) D := fun s H a => hv s H a _ fun v H1 e1 j1 p1 => by
  have a1 := a.step e1 j1
  obtain ⟨z, f1, f2⟩ := a1.sg.at_ i _ h
  have ez : z = .ref p := f2
  subst ez
  obtain ⟨o, e3, dx, fs, rfl, h1, h2⟩ := a1.hd.lo _ (List.mem_of_getElem? hl)
  have h1 : fs.length ≤ fl.length := h1
  refine ⟨.ref p, f1, p, C, dx, fs, rfl, e3, hc, hn, by omega, k s _ (a1.put hl ⟨dx, _, rfl, ?_, fun q hq => ?_⟩)⟩
  · have := length_putF f v fs
    rw [List.length_cons]
    omega
  · rw [lookup_putF]
    rcases List.mem_cons.mp hq with e | hq
    · subst e
      exact ⟨v, if_pos rfl, p1⟩
    · rw [if_neg fun z => hf (by rw [← z]; exact List.mem_map.mpr ⟨q, hq, rfl⟩)]
      exact h2 q hq
theorem y_selfld (h : g[i]? = some (some (Vl (.ref p)))) (hl : L[j]? = some (p, LoI C fl)) (hc : Cls K C) (hn : NoAttr K C f) (hf : (f, t) ∈ fl) : Y B g L (tFld K (tVar i) f) t := fun s H a Q k => by
  obtain ⟨z, f1, f2⟩ := a.sg.at_ i _ h
  have ez : z = .ref p := f2
  subst ez
  obtain ⟨o, e3, dx, fs, rfl, h1, h2⟩ := a.hd.lo _ (List.mem_of_getElem? hl)
  obtain ⟨v, e4, e5⟩ := h2 _ hf
  exact ⟨.ref p, f1, p, C, dx, fs, v, rfl, e3, hc, hn, e4, k v H (Le.refl _ _) a.hd.ok.j e5⟩
end
end G
namespace K29
open PySem PySem.Spec PyProof.Rows L2 G PySem.W
def linesOf (rows : List NRow) : List Ln := rows.flatMap fun r => r.2.map fun s => (s, r.1)
def netOf (rows : List NRow) : Net := ⟨rows.map (·.1), linesOf rows, rowsIn (linesOf rows)⟩
def W0 : Wd := ⟨[], fun _ => True, fun _ h => h, fun _ b hb => absurd hb List.not_mem_nil⟩
def spInit (K : PySem.W.Frag) : Sp := fun vs H Q _ => ∃ (A : List Addr) (x dx : Addr) (rows : List NRow), vs = [.ref x, .str (webText rows)] ∧ H x = some (.ins (He.ga K "Web") dx []) ∧ x ∉ A ∧ (∀ a, a ∈ A → H a ≠ none) ∧ RowsOk rows ∧ TxtOk rows ∧
  ∀ H', (∀ b o, b ≠ x → H b = some o → H' b = some o) → (NT K (netOf rows)).p (.ref x) (cut A H') → Q .non H'
theorem sum_two (l : List NRow) : (∀ r, r ∈ l → r.2.length ≤ 2) → (l.map fun r => r.2.length).sum ≤ l.length * 2 := by
  induction l with
  | nil => intro _; exact Nat.zero_le _
  | cons r l ih =>
    intro h
    have a := ih fun x hx => h x (List.mem_cons_of_mem _ hx)
    have b := h r List.mem_cons_self
    rw [List.map_cons, List.sum_cons, List.length_cons]
    omega
theorem RowsOk.two {rows : List NRow} (ro : RowsOk rows) : ∀ r, r ∈ rows → r.2.length ≤ 2 := fun r hr => by
  obtain ⟨k, hk⟩ := List.mem_iff_getElem?.mp hr
  by_cases z : 0 < k
  · exact (ro.src k r hk z).2.1
  · have z : k = 0 := by omega
    subst z
    rw [ro.hd r hk]
    exact Nat.zero_le _
theorem RowsOk.few {rows : List NRow} (ro : RowsOk rows) : (rows.map fun r => r.2.length).sum ≤ 80 := by
  have := sum_two rows ro.two
  have := ro.len
  omega
theorem lines_len {rows : List NRow} : (linesOf rows).length = (rows.map fun r => r.2.length).sum := by
  unfold linesOf
  rw [List.length_flatMap]
  simp
section
variable {P : Program} {w : World} {K : PySem.W.Frag} {mg : Str → Option Value} {base : Heap}
def NWeb__init__ : List Str := ["self", "text", "found", "name", "sources", "source"]
theorem scWeb__init__ : FnScope NWeb__init__ ["self", "text"] (defScope sWebInit) := ⟨rfl, rfl, rfl, by decide +kernel, rfl, by decide +kernel, by decide +kernel⟩
theorem ok_web_init (M : Md K mg) (cweb_in : Cal P w K mg base 2 "web_in" ["text"] (spweb_in K)) (crows_in : Cal P w K mg base 4 "rows_in" ["lines"] (sprows_in K)) : C8.Mak P w K mg base 5 "Web" (He.ga K "Web") (spInit K) [] := by
  obtain ⟨fd, F⟩ := M.dWebInit
  refine ⟨_, fd, ["self", "text"], [], M.mkrWeb, F.ok scWeb__init__ (fun vs H Q E h => ?_) fun cdv A outer s H vs Q E hr4 hsp => ?_, M.oWeb, F.bindsN (fun _ _ _ _ _ _ us hl => match us, hl with | [_, _], _ => rfl), .nil⟩
  · obtain ⟨_, _, _, _, rfl, _⟩ := h
    rfl
  obtain ⟨A', x, dx, rows, rfl, hx, nx, av, ro, tx, q⟩ := hsp
  have hr2 := hr4.mono (j := 2) (by decide)
  have nd := scWeb__init__.nd
  refine ⟨_, PSs.nox (    (pss_cons (ps_set (i := 2) nd rfl (Or.inl rfl) (pe_cal cweb_in hr2 (by rfl) (pa_cons (pv 1) pa_nil)))
    (pss_cons (ps_if (pt_cmpR op_isN (pv 2) pe_non (nomark _))
      (pss_cons (ps_never)
      pss_nil)
      pss_nil)
    (pss_cons (k_sfld K (pv 0) (pv 1))
    (pss_cons (k_sfld K (pv 0) (pv 2))
    (pss_cons (k_sfld K (pv 0) (pe_callTy (k_tupOf K) (by rfl) M.mtuple (by decide +kernel) (pa_cons (pe_lc rfl nd (k_tup K (pv 2)) (blkOk_by (N := NWeb__init__) (sc := defScope sWebInit) (own := [("name", 3), ("sources", 4)]) (by decide +kernel)) (fun _ _ _ _ _ => (k_pg K (n := 2) (pgs_cons (pg_name (i := 3) nd rfl (Or.inl rfl)) (pgs_cons (pg_name (i := 4) nd rfl (Or.inl rfl)) pgs_nil)))) (fun _ _ _ _ _ => pts_nil) (fun _ _ _ _ _ => (pv 3))) pa_nil)))
    (pss_cons (k_sfld K (pv 0) (pe_callTy (k_tupF K) (by rfl) M.mtuple (by decide +kernel) (pa_cons (pe_lc2 rfl nd (k_tup K (pv 2)) (blkOk_by (N := NWeb__init__) (sc := defScope sWebInit) (own := [("name", 3), ("sources", 4), ("source", 5)]) (by decide +kernel)) (vs1 := [5]) (by decide) (fun _ _ _ _ _ => (k_pg K (n := 2) (pgs_cons (pg_name (i := 3) nd rfl (Or.inl rfl)) (pgs_cons (pg_name (i := 4) nd rfl (Or.inl rfl)) pgs_nil)))) (fun _ _ _ _ _ => pts_nil) (fun _ _ _ _ _ => (k_tup K (pv 4))) (fun _ _ _ _ _ => (pg_name (i := 5) nd rfl (Or.inl rfl))) (fun _ _ _ _ _ => pts_nil) (fun _ _ _ _ _ => (pe_tup (pa_cons (pv 5) (pa_cons (pv 3) pa_nil))))) pa_nil)))
    (pss_cons (k_sfld K (pv 0) (pe_cal crows_in hr4 (by rfl) (pa_cons (k_fld K (pv 0)) pa_nil)))
    pss_nil)))))))), ?_⟩
  have hB : At ⟨W0, A', cut [x] H, []⟩ [some (Vl (.ref x)), some (Is K (webText rows)), none, none, none, none] [(x, LoI (He.ga K "Web") [])] (start NWeb__init__ [.ref x, .str (webText rows)]) H := by
    have st := at_start (W := W0) (A := x :: A') (H := H) (N := NWeb__init__) (vs := [.ref x, .str (webText rows)]) (ss := [Vl (.ref x), Is K (webText rows)]) ⟨fun b hb => absurd hb List.not_mem_nil, trivial, fun a ha => ?_⟩ (.cons rfl (.cons (rp_str _) .nil)) (by show 2 ≤ 6; decide)
    · refine ⟨⟨⟨fun b hb => absurd hb List.not_mem_nil, trivial, av⟩, fun b o _ h => (cut_of h).2, fun q hq => ?_, by simp, fun q hq => ?_, fun q hq => absurd hq List.not_mem_nil⟩, st.sg⟩
      · rw [List.mem_singleton.mp hq]
        exact ⟨cut_in List.mem_cons_self, nx⟩
      · rw [List.mem_singleton.mp hq]
        exact ⟨_, hx, dx, [], rfl, Nat.le_refl _, fun q hq => absurd hq List.not_mem_nil⟩
    · rcases List.mem_cons.mp ha with z | z
      · rw [z, hx]; exact fun e => by cases e
      · exact av a z
  refine (show YS ⟨W0, A', cut [x] H, []⟩ [some (Vl (.ref x)), some (Is K (webText rows)), none, none, none, none] [(x, LoI (He.ga K "Web") [])] _ _ from ?_) _ _ hB
  have hl := ro.len
  refine ys_setD (t := Is K (Tup.mk (rows.map fun q => (q.1, Tup.mk q.2)))) (y_call1 (x := rows) (ya_cons (y_var rfl) ya_nil) ⟨ro, tx⟩) ?_
  refine ys_if (c := false) (yt_test (K := K) (Y.loose (y_isN (Y.loose (y_var rfl)) fun v H h => non_tup h))) (fun h => by cases h) fun _ => ys_then ?_
  refine ys_sfld (j := 0) rfl rfl (y_var rfl) M.clsWeb M.noat_written List.not_mem_nil (by show 0 < 1000; decide) ?_
  refine ys_sfld (j := 0) rfl rfl (y_var rfl) M.clsWeb M.noat_rows (by show ("rows" : Str) ∉ (["written"] : List Str); decide) (by show 1 < 1000; decide) ?_
  refine ys_sfld (j := 0) (t := Is K (Tup.mk (rows.map (·.1)))) rfl rfl ?_ M.clsWeb M.noat_heads (by show ("heads" : Str) ∉ (["rows", "written"] : List Str); decide) (by show 2 < 1000; decide) ?_
  · refine y_tupL (Y.q (YF.dat (YF.to (yf_lc1 (vs := [3, 4]) (xs := rows.map fun q => (q.1, Tup.mk q.2)) (us := fun y => [(3, Is K y.1), (4, Is K y.2)]) (f := fun y => y.1) (yi_tup (y_var rfl)).loose (by rw [List.length_map, sizeLine_eq]; omega) (fun D y _ => yg_pair yg_name yg_name) (fun y _ i hi => by simpa using hi) (fun D y _ => y_var rfl)) ?_)))
    rw [List.map_map]
    rfl
  refine ys_sfld (j := 0) (t := LnT K (linesOf rows)) rfl rfl ?_ M.clsWeb M.noat_pairs (by show ("pairs" : Str) ∉ (["heads", "rows", "written"] : List Str); decide) (by show 3 < 1000; decide) ?_
  · refine y_tupF (Y.q (YF.dat (YF.to (yf_lc2 (vs := [3, 4, 5]) (vs1 := [5]) (xs := rows.map fun q => (q.1, Tup.mk q.2)) (zs := fun y => y.2.items) (us := fun y => [(3, Is K y.1), (4, Is K y.2)]) (us1 := fun _ z => [(5, Is K z)]) (c := fun _ => true) (c1 := fun _ _ => true) (f := fun y z => (z, y.1))
      (yi_tup (y_var rfl)).loose ?_ (fun D y _ => yg_pair yg_name yg_name) (fun y _ i hi => ?_) (fun D y _ => yt_yes) (fun D y _ _ => yi_tup (y_var rfl)) (fun D y z _ _ => yg_name) (fun y z _ _ i hi => by simpa using hi) (fun D y z _ _ _ => yt_yes) (fun D y z _ _ _ _ => y_pair (y_var rfl) (y_var rfl))) ?_))) (isTupD_pairs _)
    · rw [List.map_map]
      have := ro.few
      rw [sizeLine_eq]
      show (rows.map fun r => r.2.length).sum ≤ _
      omega
    · have hi : i = 3 ∨ i = 4 := by simpa using hi
      rcases hi with e | e <;> rw [e] <;> decide
    · have fl : ∀ {α : Type} (l : List α), l.filter (fun _ => true) = l := fun l => List.filter_eq_self.mpr fun _ _ => rfl
      unfold linesOf
      rw [fl, List.flatMap_map]
      congr 1
      funext q
      rw [fl]
  refine ys_sfld (j := 0) (t := Is K (Tup.mk ((rowsIn (linesOf rows)).map Tup.mk))) rfl rfl ?_ M.clsWeb M.noat_zigzag_rows (by show ("zigzag_rows" : Str) ∉ (["pairs", "heads", "rows", "written"] : List Str); decide) (by show 4 < 1000; decide) ?_
  · refine y_call1 (x := linesOf rows) (ya_cons (y_selfld (j := 0) (f := "pairs") rfl rfl M.clsWeb M.noat_pairs List.mem_cons_self) ya_nil) ?_
    show (linesOf rows).length ≤ 1000
    rw [lines_len]
    have := ro.few
    omega
  refine ys_next fun s H' a => ?_
  obtain ⟨o, e3, dx', fs, rfl, h1, h2⟩ := a.hd.lo _ List.mem_cons_self
  have sub : Same (vw (⟨W0, A', cut [x] H, []⟩ : Bs) [(x, LoI (He.ga K "Web") [])] H') (cut A' H') := cut_sub fun a ha => List.mem_append_right _ ha
  have get : ∀ (f : Str) (t : Sl), (f, t) ∈ [(("zigzag_rows" : Str), Is K (Tup.mk ((rowsIn (linesOf rows)).map Tup.mk))), ("pairs", LnT K (linesOf rows)), ("heads", Is K (Tup.mk (rows.map (·.1)))), ("rows", Is K (Tup.mk (rows.map fun q => (q.1, Tup.mk q.2)))), ("written", Is K (webText rows))] → ∃ v, fs.lookup f = some v ∧ t.p v (cut A' H') := fun f t h => by
    obtain ⟨v, e1, e2⟩ := h2 _ h
    exact ⟨v, e1, t.mono sub e2⟩
  obtain ⟨v1, f1, r1⟩ := get "heads" (Is K (Tup.mk (rows.map (·.1)))) (by simp)
  obtain ⟨v2, f2, r2⟩ := get "pairs" (LnT K (linesOf rows)) (by simp)
  obtain ⟨v3, f3, r3⟩ := get "zigzag_rows" (Is K (Tup.mk ((rowsIn (linesOf rows)).map Tup.mk))) (by simp)
  refine q H' (fun b o hb h => a.hd.le b o List.not_mem_nil ?_) ⟨x, dx', fs, v1, v2, v3, rfl, by rw [cut_out nx]; exact e3, f1, r1, f2, r2, f3, r3⟩
  show cut [x] H b = some o
  rw [cut_out fun z => hb (List.mem_singleton.mp z)]
  exact h
end
section
variable {K : PySem.W.Frag} {B : Bs} {g : Slots} {L : Ls} {ta : TA} {E : XK}
theorem y_make {rows : List NRow} (h : YA B g L ta [Is K (webText rows)]) (ro : RowsOk rows) (tx : TxtOk rows) : Y B g L (tMake (He.ga K "Web") (spInit K) [] E ta) (NT K (netOf rows)) := fun s H a Q k => h s H a _ fun vs H1 e j p x dx hx hdx hne => by
  have a1 := a.hd.step e j
  obtain ⟨v, rfl, hv⟩ : ∃ v, vs = [v] ∧ v = .str (webText rows) := by
    cases p with
    | cons r t =>
      cases t
      exact ⟨_, rfl, str_rp r⟩
  subst hv
  refine ⟨L.map (·.1) ++ B.A, x, dx, rows, rfl, upd_same, a1.fresh hx, fun a ha => ?_, ro, tx, fun H' hk nt => ⟨rfl, k (.ref x) H' (e.trans fun b o _ hb => ?_) (B.W.jd (fun b hb => ?_) j) nt⟩⟩
  · have n := a1.full.av a ha
    rw [upd_ne fun z => n (by rw [z]; exact hx), upd_ne fun z => n (by rw [z]; exact hdx)]
    exact n
  · have n : H1 b ≠ none := by rw [hb]; exact fun z => by cases z
    refine hk b o (fun z => n (by rw [z]; exact hx)) ?_
    rw [upd_ne fun z => n (by rw [z]; exact hx), upd_ne fun z => n (by rw [z]; exact hdx)]
    exact hb
  · cases hb' : H1 b with
    | none => exact absurd hb' (B.W.jm j b hb)
    | some o =>
      have n : H1 b ≠ none := by rw [hb']; exact fun z => by cases z
      refine hk b o (fun z => n (by rw [z]; exact hx)) ?_
      rw [upd_ne fun z => n (by rw [z]; exact hx), upd_ne fun z => n (by rw [z]; exact hdx)]
      exact hb'
end
end K29
set_option Elab.async false
set_option linter.all false
set_option maxRecDepth 100000
set_option maxHeartbeats 4000000
/-! The law's defs: the well, what is drawn. -/
namespace G
open PySem PySem.Spec PyProof.Rows L2 PySem.W
/-- the world of a well: a list of three whole numbers, the last at least 0 -/
def Ww (wl : Addr) : Wd where
  M := [wl]
  J := fun H => ∃ a b c, H wl = some (.lst [.int a, .int b, .int c]) ∧ 0 ≤ c
  jd := fun e ⟨a, b, c, h1, h2⟩ => ⟨a, b, c, by rw [e wl List.mem_cons_self]; exact h1, h2⟩
  jm := fun ⟨a, b, c, h1, h2⟩ x hx => by rw [List.mem_singleton.mp hx, h1]; exact fun z => by cases z
section
variable {K : PySem.W.Frag} {B : Bs} {g : Slots} {L : Ls} {te t1 t2 : TE} {D : Ends} {rest : TS} {i : Nat} {wl : Addr}
theorem y_wix {k : Int} {C : Int → Prop} (hW : B.W = Ww wl) (h : g[i]? = some (some (Vl (.ref wl)))) (hk : ∀ a b c : Int, 0 ≤ c → ∃ z : Int, atI [V.int a, V.int b, V.int c] k = some (.int z) ∧ C z) : Y B g L (tOp (rIxL K) (tVar i) (tC (.int k))) (Ex K C) := fun s H a Q q => by
  obtain ⟨v, e1, e2⟩ := a.sg.at_ i _ h
  have e2 : v = .ref wl := e2
  subst e2
  have j := a.hd.ok.j
  rw [hW] at j
  obtain ⟨x, y, z, h1, h2⟩ := j
  obtain ⟨r, h3, h4⟩ := hk x y z h2
  exact ⟨.ref wl, e1, wl, _, k, _, rfl, rfl, .inl (.inl h1), h3, q _ H (Le.refl _ _) a.hd.ok.j ⟨r, h4, rp_int r⟩⟩
theorem At.well {s : L2.St} {H : Hp} {a b c : Int} (h : At B g L s H) (hW : B.W = Ww wl) (hc : 0 ≤ c) : At B g L s (upd H wl (.lst [.int a, .int b, .int c])) := by
  refine h.step (fun x o hx e => ?_) (by rw [hW]; exact ⟨a, b, c, upd_same, hc⟩)
  rw [hW] at hx
  rw [upd_ne fun z => hx (by rw [z]; exact List.mem_cons_self)]
  exact e
theorem set3 {a b c z : Int} {j : Nat} (hj : j < 3) (hz : j = 2 → 0 ≤ z) (hc : 0 ≤ c) : ∃ x y w : Int, [V.int a, V.int b, V.int c].set j (.int z) = [.int x, .int y, .int w] ∧ 0 ≤ w := by
  match j, hj, hz with
  | 0, _, _ => exact ⟨z, b, c, rfl, hc⟩
  | 1, _, _ => exact ⟨a, z, c, rfl, hc⟩
  | 2, _, hz => exact ⟨a, b, z, rfl, hz rfl⟩
theorem ys_wset {k : Int} {j : Nat} {A : Int → Prop} (hW : B.W = Ww wl) (h : g[i]? = some (some (Vl (.ref wl)))) (hj : ixN 3 k = some j) (hv : Y B g L te (Ex K A)) (hA : ∀ z, A z → j = 2 → 0 ≤ z) (q : YS B g L rest D) :
    YS B g L (tSeq (tAsg te (gSub (tVar i) (tC (.int k)) rSetL)) rest) D := fun s H a => hv s H a _ fun v H1 e1 j1 p1 => by
  have a1 := a.step e1 j1
  obtain ⟨z, hz, r⟩ := p1
  rw [int_rp r]
  obtain ⟨v, f1, f2⟩ := a1.sg.at_ i _ h
  have f2 : v = .ref wl := f2
  subst f2
  have jj := a1.hd.ok.j
  rw [hW] at jj
  obtain ⟨x, y, w, h1, h2⟩ := jj
  obtain ⟨x', y', w', h3, h4⟩ := set3 (a := x) (b := y) (c := w) (z := z) (ixN_seq hj).2.1 (hA z hz) h2
  refine ⟨.ref wl, f1, wl, _, k, j, rfl, rfl, h1, hj, ?_⟩
  rw [h3]
  exact q s _ (a1.well hW h4)
theorem ys_wdiv {j2 : Nat} {m : Int} (hW : B.W = Ww wl) (h : g[i]? = some (some (Vl (.ref wl)))) (hm : g[j2]? = some (some (Is K m))) (h1 : 0 < m) (h2 : m < 1073741824) {n : Nat} (q : ∀ r : Int, 0 ≤ r ∧ r < m → YS B (g.set n (some (Is K r))) L rest D) :
    YS B g L (tSeq (tAsg (tCB (fun xs H Q => ∃ i j, xs = [.int i, .int j] ∧ CDiv i j ∧ ∀ p, H p = none → Q (.ref p) (upd H p (.tup [.int (i / j), .int (i % j)]))) (tCons (tOp (rIxL K) (tVar i) (tC (.int 2))) (tCons (tVar j2) tNil)))
      (gTup K 2 (gCons (gSub (tVar i) (tC (.int 2)) rSetL) (gCons (gName n) gNil)))) rest) D := fun s H a => by
  have hx := y_wix (K := K) (i := i) (L := L) (k := 2) (C := fun z => 0 ≤ z) hW h (fun a b c hc => ⟨c, rfl, hc⟩)
  refine hx s H a _ fun v H1 e1 j1 p1 => ?_
  obtain ⟨c, hc, r⟩ := p1
  rw [int_rp r]
  have a1 := a.step e1 j1
  obtain ⟨u, f1, f2⟩ := a1.sg.at_ j2 _ hm
  rw [int_rp f2] at f1
  refine ⟨.int m, f1, c, m, rfl, ⟨h1, h2⟩, fun p hp => ?_⟩
  have a2 := a1.laid (o := .tup [.int (c / m), .int (c % m)]) hp
  obtain ⟨v, g1, g2⟩ := a2.sg.at_ i _ h
  have g2 : v = .ref wl := g2
  subst g2
  have jj := a2.hd.ok.j
  rw [hW] at jj
  obtain ⟨x, y, w, h3, h4⟩ := jj
  refine ⟨p, _, rfl, SqT.of upd_same, rfl, _, [.int (c % m)], rfl, .ref wl, g1, wl, _, 2, 2, rfl, rfl, h3, rfl, ?_⟩
  have a3 := a2.well (a := x) (b := y) (c := c / m) hW (Int.ediv_nonneg hc (by omega))
  refine ⟨_, [], rfl, rfl, ?_⟩
  exact q (c % m) ⟨Int.emod_nonneg _ (by omega), Int.emod_lt_of_pos _ h1⟩ _ _ ⟨a3.hd, a3.sg.set n (rp_int _)⟩
end
end G
namespace K29
open PySem PySem.Spec PyProof.Rows L2 G PySem.W
section
variable {P : Program} {w : World} {K : PySem.W.Frag} {mg : Str → Option Value} {base : Heap}
def NLdraw : List Str := ["_law_well_here", "_law_many", "_law_figure"]
theorem scLdraw : FnScope NLdraw ["_law_well_here", "_law_many"] (defScope s_Ldraw) := ⟨rfl, rfl, rfl, by decide +kernel, rfl, by decide +kernel, by decide +kernel⟩
abbrev spdraw (K : PySem.W.Frag) : Sp := sp2 (fun W (wl : Addr) (m : Int) => W = Ww wl ∧ 0 < m ∧ m < 1073741824) (fun wl : Addr => Vl (.ref wl)) (fun m : Int => Is K m) fun _ m => Ex K fun r : Int => 0 ≤ r ∧ r < m
theorem ok_draw (M : Md K mg) : Cal P w K mg base 1 "_law_draw" ["_law_well_here", "_law_many"] (spdraw K) := by
  obtain ⟨fd, F⟩ := M.d_Ldraw
  refine cal_mk F M.o_law_draw scLdraw (fun _ _ _ _ _ _ us hl => match us, hl with | [_, _], _ => rfl) (fun _ => rfl) rfl fun cdv A outer s W A' H i Q E hr0 hp ok hQ => ?_
  obtain ⟨wl, m⟩ := i
  obtain ⟨hW, h1, h2⟩ := hp
  have hW : W = Ww wl := hW
  have h1 : 0 < m := h1
  have h2 : m < 1073741824 := h2
  subst hW
  have nd := scLdraw.nd
  refine ⟨_,     (pss_cons (ps_asg (pe_op op_mod (pe_callTy call_int1 (by rfl) M.mint (by decide +kernel) (pa_cons (pe_op op_add (pe_op op_mul pe_int (pe_ix (k_ixL K) (pv 0) pe_int (fun _ _ => rfl))) pe_int) pa_nil)) pe_int) (pg_sub (pv 0) pe_int set_list))
    (pss_cons (ps_asg (pe_op op_mod (pe_callTy call_int1 (by rfl) M.mint (by decide +kernel) (pa_cons (pe_op op_add (pe_op op_mul pe_int (pe_ix (k_ixL K) (pv 0) pe_int (fun _ _ => rfl))) pe_int) pa_nil)) pe_int) (pg_sub (pv 0) pe_int set_list))
    (pss_cons (ps_if (pt_cmpR op_gt (pe_ix (k_ixL K) (pv 0) pe_int (fun _ _ => rfl)) pe_int (nomark _))
      (pss_cons (ps_asg (pe_callB call_divmod (by rfl) M.mdivmod (by decide +kernel) (pa_cons (pe_ix (k_ixL K) (pv 0) pe_int (fun _ _ => rfl)) (pa_cons (pv 1) pa_nil))) (k_pg K (n := 2) (pgs_cons (pg_sub (pv 0) pe_int set_list) (pgs_cons (pg_name (i := 2) nd rfl (Or.inl rfl)) pgs_nil))))
      (pss_cons (ps_ret (pv 2))
      pss_nil))
      pss_nil)
    (pss_cons (ps_ret (pe_op op_mod (pe_callTy call_int1 (by rfl) M.mint (by decide +kernel) (pa_cons (pe_op op_fdiv (pe_op op_mod (pe_callTy call_int1 (by rfl) M.mint (by decide +kernel) (pa_cons (pe_op op_sub (pe_ix (k_ixL K) (pv 0) pe_int (fun _ _ => rfl)) (pe_ix (k_ixL K) (pv 0) pe_int (fun _ _ => rfl))) pa_nil)) pe_int) pe_int) pa_nil)) (pv 1)))
    pss_nil)))), ?_⟩
  dsimp only [cxOf, Cx.nox, Cx.wish]
  show YS ⟨Ww wl, A', H, []⟩ [some (Vl (.ref wl)), some (Is K m), none] [] _ _
  have any : ∀ {k : Int}, (∀ a b c : Int, ∃ z : Int, atI [V.int a, V.int b, V.int c] k = some (.int z)) → YL (⟨Ww wl, A', H, []⟩ : Bs) [some (Vl (.ref wl)), some (Is K m), none] [] (tOp (rIxL K) (tVar 0) (tC (.int k))) (Ex K fun _ : Int => True) :=
    fun hk => Y.loose (y_wix rfl rfl fun a b c _ => (hk a b c).imp fun z e => ⟨e, trivial⟩)
  have num : ∀ (i : Int), YL (⟨Ww wl, A', H, []⟩ : Bs) [some (Vl (.ref wl)), some (Is K m), none] [] (tC (.int i)) (Ex K fun z : Int => z = i) := fun i => Y.loose (y_int.ex rfl)
  have cm : ∀ (c i j : Int), -(2 ^ 64) < c → c < 2 ^ 64 → i = c → CMul i j := fun c i j h1 h2 e => by subst e; exact .inl ⟨h1, h2⟩
  refine ys_wset (j := 0) (A := fun _ => True) rfl rfl rfl (Y.exm (y_opCE (Y.loose (y_intIE (Y.loose (y_opIE (f := fun i j => i + j) (Y.loose (y_opCE (f := fun i j => i * j) (num 40014) (any fun a b c => ⟨a, rfl⟩) fun i j e _ => cm 40014 i j (by decide) (by decide) e)) (num 1))))) (num 2147483563) fun i j _ e => by have e : j = 2147483563 := e; omega) fun _ _ => trivial) (fun z _ e => by cases e) ?_
  refine ys_wset (j := 1) (A := fun _ => True) rfl rfl rfl (Y.exm (y_opCE (Y.loose (y_intIE (Y.loose (y_opIE (f := fun i j => i + j) (Y.loose (y_opCE (f := fun i j => i * j) (num 40692) (any fun a b c => ⟨b, rfl⟩) fun i j e _ => cm 40692 i j (by decide) (by decide) e)) (num 5))))) (num 2147483399) fun i j _ e => by have e : j = 2147483399 := e; omega) fun _ _ => trivial) (fun z _ e => by cases e) ?_
  refine ys_ifP (C := fun _ => True) ((yp_test (K := K) (Y.loose (y_opBE (f := fun i j => decide (j < i)) (any fun a b c => ⟨c, rfl⟩) (num 0)))).imp fun _ _ => trivial) (fun _ => ?_) fun _ => ys_then ?_
  · refine ys_wdiv rfl rfl rfl h1 h2 fun r hr => ?_
    exact ys_ret (t := Ex K fun r : Int => 0 ≤ r ∧ r < m) ((y_var rfl : Y _ _ _ _ (Is K r)).ex hr) hQ
  · refine ys_ret (t := Ex K fun r : Int => 0 ≤ r ∧ r < m) (Y.exm (y_opCE (f := fun i j => i % j) (Y.loose (y_intIE (Y.loose (y_opCE (f := fun i j => i / j) (Y.loose (y_opCE (f := fun i j => i % j) (Y.loose (y_intIE (Y.loose (y_opIE (f := fun i j => i - j) (any fun a b c => ⟨a, rfl⟩) (any fun a b c => ⟨b, rfl⟩))))) (num 2147483562) fun i j _ e => ?_)) (num 7) fun i j _ e => ?_)))) (Y.loose ((y_var rfl : Y _ _ _ (tVar 1) (Is K m)).ex (A := fun z => z = m) rfl)) fun i j _ e => ?_) fun z hz => ?_) hQ
    · have e : j = 2147483562 := e
      omega
    · have e : j = 7 := e
      subst e
      exact ⟨by decide, by decide⟩
    · have e : j = m := e
      omega
    · obtain ⟨i, j, _, e, e2⟩ := hz
      have e : j = m := e
      have e2 : z = i % j := e2
      subst e
      rw [e2]
      exact ⟨Int.emod_nonneg _ (by omega), Int.emod_lt_of_pos _ h1⟩
end
end K29
set_option Elab.async false
set_option linter.all false
set_option maxRecDepth 100000
set_option maxHeartbeats 4000000
/-! The law's defs: a web's text, lines, choices, table. -/
namespace K29
open PySem PySem.Spec PyProof.Rows L2 G PySem.W
abbrev dRow (q : NRow) : Str × Tup Str := (q.1, Tup.mk q.2)
def innerOf (rows : List NRow) : List Str := (rows.filter fun r => inB r.1 (usedOf rows)).map (·.1)
def tupStep (found : List (List Str)) (r : NRow) : List (List Str) := found.flatMap fun less => r.2.map fun s => less ++ [s]
def tuplesOf (rows : List NRow) : List (List Str) := (rows.drop 1).foldl tupStep [[]]
def choicesOf (rows : List NRow) : List (List Str) := (tuplesOf rows).filter fun c => ((innerOf rows).map fun x => inB x c).all id
def rowC (c : List Str) (spots : List (Int × Str)) : List Bool := spots.map fun p => decide (c.getD p.1.toNat Str.empty = p.2)
def headsOf (rows : List NRow) : List Str := (rows.drop 1).map (·.1)
def spotsOf (rows : List NRow) : List (Int × Str) := (linesOf rows).map fun l => ((idxB l.2 (headsOf rows) : Int), l.1)
def tableOf (rows : List NRow) (cs : List (List Str)) : List (List Bool) := cs.map fun c => rowC c (spotsOf rows)
def totalOf (ws : List Int) (ks : List Bool) : Int := (((ws.zip ks).filter fun p => p.2).map fun p => p.1).sum
def withOf (ts : List Int) (fs : List Bool) : List Int := ((ts.zip fs).filter fun p => p.2).map fun p => p.1
def woOf (ts : List Int) (fs : List Bool) : List Int := ((ts.zip fs).filter fun p => !p.2).map fun p => p.1
def dueOf (ts : List Int) (fs : List Bool) : Option Int := if decide (withOf ts fs = []) || decide (woOf ts fs = []) then none else some (mxI (withOf ts fs) - mxI (woOf ts fs))
theorem tupStep_len {found : List (List Str)} {r : NRow} (h : r.2.length ≤ 2) : (tupStep found r).length ≤ found.length * 2 := by
  unfold tupStep
  induction found with
  | nil => simp
  | cons x xs ih =>
    rw [List.flatMap_cons, List.length_append, List.length_map, List.length_cons]
    omega
theorem tupAll_len : ∀ (rs : List NRow) (found : List (List Str)), (∀ r, r ∈ rs → r.2.length ≤ 2) → (rs.foldl tupStep found).length ≤ found.length * 2 ^ rs.length
  | [], found, _ => by simp
  | r :: rs, found, h => by
    have a := tupAll_len rs (tupStep found r) fun x hx => h x (List.mem_cons_of_mem _ hx)
    have b := tupStep_len (found := found) (h r List.mem_cons_self)
    rw [List.foldl_cons, List.length_cons, Nat.pow_succ]
    calc _ ≤ _ := a
      _ ≤ found.length * 2 * 2 ^ rs.length := Nat.mul_le_mul_right _ b
      _ = found.length * (2 ^ rs.length * 2) := by rw [Nat.mul_assoc, Nat.mul_comm 2]
theorem tupStep_each {found : List (List Str)} {r : NRow} {n : Nat} (h : ∀ c, c ∈ found → c.length = n) : ∀ c, c ∈ tupStep found r → c.length = n + 1 := fun c hc => by
  obtain ⟨x, hx, h2⟩ := List.mem_flatMap.mp hc
  obtain ⟨s, _, e⟩ := List.mem_map.mp h2
  rw [← e, List.length_append, h x hx]
  rfl
theorem tupAll_each : ∀ (rs : List NRow) (found : List (List Str)) (n : Nat), (∀ c, c ∈ found → c.length = n) → ∀ c, c ∈ rs.foldl tupStep found → c.length = n + rs.length
  | [], _, _, h => h
  | r :: rs, found, n, h => fun c hc => by
    have := tupAll_each rs (tupStep found r) (n + 1) (tupStep_each h) c hc
    rw [List.length_cons]
    omega
theorem tuples_each {rows : List NRow} {c : List Str} (h : c ∈ tuplesOf rows) : c.length = rows.length - 1 := by
  have := tupAll_each (rows.drop 1) [[]] 0 (fun c hc => by rw [List.mem_singleton.mp hc]; rfl) c h
  rw [List.length_drop] at this
  omega
theorem tuples_len {rows : List NRow} (ro : RowsOk rows) (h : rows.length ≤ 9) : (tuplesOf rows).length ≤ 256 := by
  have a := tupAll_len (rows.drop 1) [[]] fun r hr => ro.two r (List.mem_of_mem_drop hr)
  rw [List.length_drop, List.length_singleton, Nat.one_mul] at a
  have b : 2 ^ (rows.length - 1) ≤ 2 ^ 8 := Nat.pow_le_pow_right (by decide) (by omega)
  exact Nat.le_trans a b
theorem lines_mem {rows : List NRow} {l : Ln} (h : l ∈ linesOf rows) : ∃ r, r ∈ rows ∧ l.2 = r.1 ∧ l.1 ∈ r.2 := by
  obtain ⟨r, hr, h2⟩ := List.mem_flatMap.mp h
  obtain ⟨s, hs, e⟩ := List.mem_map.mp h2
  rw [← e]
  exact ⟨r, hr, rfl, hs⟩
theorem lines_head {rows : List NRow} (ro : RowsOk rows) {l : Ln} (h : l ∈ linesOf rows) : l.2 ∈ headsOf rows := by
  obtain ⟨r, hr, e1, e2⟩ := lines_mem h
  obtain ⟨k, hk⟩ := List.mem_iff_getElem?.mp hr
  by_cases z : 0 < k
  · refine List.mem_map.mpr ⟨r, List.mem_iff_getElem?.mpr ⟨k - 1, ?_⟩, e1.symm⟩
    rw [List.getElem?_drop, ← hk]
    congr 1
    omega
  · have z : k = 0 := by omega
    subst z
    rw [ro.hd r hk] at e2
    cases e2
theorem idxB_lt {α : Type} [DecidableEq α] {a : α} {xs : List α} (h : a ∈ xs) : idxB a xs < xs.length := by
  letI : BEq α := instBEqOfDecidableEq
  exact List.idxOf_lt_length_of_mem h
section
variable {P : Program} {w : World} {K : PySem.W.Frag} {mg : Str → Option Value} {base : Heap}
def NLtext : List Str := ["_law_rows", "_law_name", "_law_some"]
theorem scLtext : FnScope NLtext ["_law_rows"] (defScope s_Ltext) := ⟨rfl, rfl, rfl, by decide +kernel, rfl, by decide +kernel, by decide +kernel⟩
structure JoinOk (rows : List NRow) : Prop where
  a : ∀ r, r ∈ rows → ((r.1 :: r.2).map (·.length)).sum + (r.1 :: r.2).length * (" " : Str).length ≤ 16777216
  b : ((rows.map rowText).map (·.length)).sum + (rows.map rowText).length * ("; " : Str).length ≤ 16777216
abbrev spLtext (K : PySem.W.Frag) : Sp := sp1 (fun _ (rows : List NRow) => rows.length ≤ 40 ∧ JoinOk rows) (fun rows : List NRow => Is K (rows.map dRow)) fun rows => Is K (webText rows)
theorem ok_Ltext (M : Md K mg) : Cal P w K mg base 1 "_law_text" ["_law_rows"] (spLtext K) := by
  obtain ⟨fd, F⟩ := M.d_Ltext
  refine cal_mk F M.o_law_text scLtext (fun _ _ _ _ _ _ us hl => match us, hl with | [_], _ => rfl) (fun _ => rfl) rfl fun cdv A outer s W A' H rows Q E hr0 hp ok hQ => ?_
  obtain ⟨hl, jo⟩ := hp
  have nd := scLtext.nd
  refine ⟨_,     (pss_cons (ps_ret (k_join K pe_str (pe_lc rfl nd (k_list K (pv 0)) (blkOk_by (N := NLtext) (sc := defScope s_Ltext) (own := [("_law_name", 1), ("_law_some", 2)]) (by decide +kernel)) (fun _ _ _ _ _ => (k_pg K (n := 2) (pgs_cons (pg_name (i := 1) nd rfl (Or.inl rfl)) (pgs_cons (pg_name (i := 2) nd rfl (Or.inl rfl)) pgs_nil)))) (fun _ _ _ _ _ => pts_nil) (fun _ _ _ _ _ => (k_join K pe_str (pe_op (k_catU K) (pe_tup (pa_cons (pv 1) pa_nil)) (pv 2)))))))
    pss_nil), ?_⟩
  dsimp only [cxOf, Cx.nox, Cx.wish]
  show YS ⟨W, A', H, []⟩ [some (Is K (rows.map dRow)), none, none] [] _ _
  refine ys_ret (t := Is K (webText rows)) (y_join (Y.loose y_str) (Y.loose (YF.dat (YF.to (yf_lc1 (vs := [1, 2]) (xs := rows.map dRow) (us := fun y => [(1, Is K y.1), (2, Is K y.2)]) (f := fun y => Txt.join " " (y.1 :: y.2.items)) (yi_list (y_var rfl)).loose (by rw [List.length_map, sizeLine_eq]; omega) (fun D y _ => yg_pair yg_name yg_name) (fun y _ i hi => by simpa using hi) (fun D y hy => ?_)) ?_))) jo.b) hQ
  · obtain ⟨r, hr, rfl⟩ := List.mem_map.mp hy
    have ht := ok
    refine y_joinU (ys := r.1 :: r.2) (Y.loose y_str) (Y.loose (y_catU (xs := [r.1]) (y_tupU (yi_cons (y_var rfl) yi_nil) (by show 1 ≤ sizeLine; decide)) (y_var rfl) ?_)) (jo.a r hr)
    have := jo.a r hr
    rw [sizeLine_eq]
    show 1 + r.2.length ≤ _
    have e : (r.1 :: r.2).length * (" " : Str).length = (r.1 :: r.2).length := Nat.mul_one _
    rw [e, List.length_cons] at this
    omega
  · rw [List.map_map]
    rfl
def NLlines : List Str := ["_law_rows", "_law_found", "_law_name", "_law_some", "_law_source"]
theorem scLlines : FnScope NLlines ["_law_rows"] (defScope s_Llines) := ⟨rfl, rfl, rfl, by decide +kernel, rfl, by decide +kernel, by decide +kernel⟩
abbrev spLlines (K : PySem.W.Frag) : Sp := sp1 (fun _ (rows : List NRow) => RowsOk rows) (fun rows : List NRow => Is K (rows.map dRow)) fun rows => Is K (linesOf rows)
theorem flat_take {α β : Type} {f : α → List β} {xs : List α} {i : Nat} {x : α} (h : xs[i]? = some x) : (xs.take (i + 1)).flatMap f = (xs.take i).flatMap f ++ f x := by
  have hi : i < xs.length := (List.getElem?_eq_some_iff.mp h).1
  rw [List.take_succ_eq_append_getElem hi, List.flatMap_append, (List.getElem?_eq_some_iff.mp h).2, List.flatMap_cons, List.flatMap_nil, List.append_nil]
theorem flat_take_len {α β : Type} {f : α → List β} {xs : List α} {i : Nat} : ((xs.take i).flatMap f).length ≤ (xs.flatMap f).length := by
  have e : xs.flatMap f = (xs.take i).flatMap f ++ (xs.drop i).flatMap f := by rw [← List.flatMap_append, List.take_append_drop]
  rw [e, List.length_append]
  omega
theorem flat_one_len {α β : Type} {f : α → List β} {xs : List α} {x : α} (h : x ∈ xs) : (f x).length ≤ (xs.flatMap f).length := by
  obtain ⟨i, hi⟩ := List.mem_iff_getElem?.mp h
  have := flat_take_len (f := f) (xs := xs) (i := i + 1)
  rw [flat_take hi, List.length_append] at this
  omega
theorem lines_small {rows : List NRow} (ro : RowsOk rows) : (linesOf rows).length ≤ 80 := by
  rw [lines_len]
  exact ro.few
theorem ok_Llines (M : Md K mg) : Cal P w K mg base 1 "_law_lines" ["_law_rows"] (spLlines K) := by
  obtain ⟨fd, F⟩ := M.d_Llines
  refine cal_mk F M.o_law_lines scLlines (fun _ _ _ _ _ _ us hl => match us, hl with | [_], _ => rfl) (fun _ => rfl) rfl fun cdv A outer s W A' H rows Q E hr0 hp ok hQ => ?_
  have ro : RowsOk rows := hp
  have nd := scLlines.nd
  refine ⟨_,     (pss_cons (ps_set (i := 1) nd rfl (Or.inl rfl) (pe_lst pa_nil))
    (pss_cons (ps_for PassesOwn.never rfl (k_list K (pv 0)) (k_pg K (n := 2) (pgs_cons (pg_name (i := 2) nd rfl (Or.inr rfl)) (pgs_cons (pg_name (i := 3) nd rfl (Or.inl rfl)) pgs_nil)))
      (pss_cons (ps_expr (k_bm K PySem.F.plainAttrs_list PySem.F.slot_list_extend PySem.F.type_list_extend (k_extend K) (pv 1) (pa_cons (pe_lc rfl nd (k_tup K (pv 3)) (blkOk_by (N := NLlines) (sc := defScope s_Llines) (own := [("_law_source", 4)]) (by decide +kernel)) (fun _ _ _ _ _ => (pg_name (i := 4) nd rfl (Or.inl rfl))) (fun _ _ _ _ _ => pts_nil) (fun _ _ _ _ _ => (pe_tup (pa_cons (pv 4) (pa_cons (pv 2) pa_nil))))) pa_nil)))
      pss_nil))
    (pss_cons (ps_ret (pv 1))
    pss_nil))), ?_⟩
  dsimp only [cxOf, Cx.nox, Cx.wish]
  show YS ⟨W, A', H, []⟩ [some (Is K (rows.map dRow)), none, none, none, none] [] _ _
  refine ys_set (O := oNew K (· = ([] : List Ln))) (YF.o (yf_lst yi_nil (Nat.zero_le _))) ?_
  rintro _ _ ⟨p, _, rfl, rfl, rfl⟩
  refine ys_forB K (ι := List Ln) (xs := rows.map dRow) (us := fun _ x => [(2, Is K x.1), (3, Is K x.2)]) (fun k d => d = linesOf (rows.take k)) (fun _ => [some (Is K (rows.map dRow)), some (Vl (.ref p)), none, none, none]) (fun d => [(p, LoL K d)]) ?_ ?_ ?_ ?_ ?_
  · exact yi_list (y_var rfl)
  · exact ⟨[], rfl, Wk1.refl _, List.Sublist.refl _⟩
  · exact fun X d x _ => yg_pair yg_name yg_name
  · rintro X k d _ hx hd
    rw [List.getElem?_map] at hx
    obtain ⟨r, hr, rfl⟩ := Option.map_eq_some_iff.mp hx
    have b1 := lines_small ro
    have b2 : d.length ≤ (linesOf rows).length := by rw [hd]; exact flat_take_len
    have b3 := ro.two r (List.mem_of_getElem? hr)
    refine ys_extend (i := 1) (j := 0) (xs := d) (ys := r.2.map fun s => (s, r.1)) rfl rfl (Y.q (YF.dat (yf_lc1 (vs := [4]) (xs := r.2) (us := fun y => [(4, Is K y)]) (f := fun s => (s, r.1)) (yi_tup (y_var rfl)).loose (by rw [sizeLine_eq]; omega) (fun D y _ => yg_name) (fun y _ i hi => by simpa using hi) (fun D y _ => y_pair (y_var rfl) (y_var rfl))))) (by rw [List.length_map, sizeLine_eq]; omega) ?_
    refine ys_next fun s H a => ⟨d ++ r.2.map fun s => (s, r.1), ?_, a.weak (.keep (.keep (.drop (.drop (.keep .nil)))))⟩
    unfold linesOf
    rw [flat_take hr, hd]
    rfl
  · rintro d hd
    rw [List.length_map, List.take_length] at hd
    subst hd
    refine ys_free (L1 := []) (L2 := []) (i := 1) rfl ?_
    exact ys_ret (t := Is K (linesOf rows)) (y_var rfl) hQ
def NLinner : List Str := ["_law_rows", "_law_spent", "_law_name", "_law_some"]
theorem scLinner : FnScope NLinner ["_law_rows"] (defScope s_Linner) := ⟨rfl, rfl, rfl, by decide +kernel, rfl, by decide +kernel, by decide +kernel⟩
abbrev spLinner (K : PySem.W.Frag) : Sp := sp1 (fun _ (rows : List NRow) => RowsOk rows) (fun rows : List NRow => Is K (rows.map dRow)) fun rows => Is K (innerOf rows)
theorem used_len {rows : List NRow} : (usedOf rows).length = (linesOf rows).length := by
  unfold usedOf linesOf
  induction rows with
  | nil => rfl
  | cons r rows ih => rw [List.flatMap_cons, List.flatMap_cons, List.length_append, List.length_append, List.length_map, ih]
theorem ok_Linner (M : Md K mg) : Cal P w K mg base 1 "_law_inner" ["_law_rows"] (spLinner K) := by
  obtain ⟨fd, F⟩ := M.d_Linner
  refine cal_mk F M.o_law_inner scLinner (fun _ _ _ _ _ _ us hl => match us, hl with | [_], _ => rfl) (fun _ => rfl) rfl fun cdv A outer s W A' H rows Q E hr0 hp ok hQ => ?_
  have ro : RowsOk rows := hp
  have hu := hr0.units
  have nd := scLinner.nd
  refine ⟨_,     (pss_cons (ps_set (i := 1) nd rfl (Or.inr rfl) (pe_lst pa_nil))
    (pss_cons (ps_for PassesOwn.never rfl (k_list K (pv 0)) (k_pg K (n := 2) (pgs_cons (pg_name (i := 2) nd rfl (Or.inl rfl)) (pgs_cons (pg_name (i := 3) nd rfl (Or.inl rfl)) pgs_nil)))
      (pss_cons (ps_expr (k_bm K PySem.F.plainAttrs_list PySem.F.slot_list_extend PySem.F.type_list_extend (k_extend K) (pv 1) (pa_cons (pv 3) pa_nil)))
      pss_nil))
    (pss_cons (ps_ret (pe_lc rfl nd (k_list K (pv 0)) (blkOk_by (N := NLinner) (sc := defScope s_Linner) (own := [("_law_name", 2), ("_law_some", 3)]) (by decide +kernel)) (fun _ _ _ _ _ => (k_pg K (n := 2) (pgs_cons (pg_name (i := 2) nd rfl (Or.inl rfl)) (pgs_cons (pg_name (i := 3) nd rfl (Or.inl rfl)) pgs_nil)))) (fun _ _ _ _ _ => (pts_one (pt_cmpR (k_in K Str hu) (pv 2) (pv 1) rfl))) (fun _ _ _ _ _ => (pv 2))))
    pss_nil))), ?_⟩
  dsimp only [cxOf, Cx.nox, Cx.wish]
  show YS ⟨W, A', H, []⟩ [some (Is K (rows.map dRow)), none, none, none] [] _ _
  refine ys_set (O := oNew K (· = ([] : List Str))) (YF.o (yf_lst yi_nil (Nat.zero_le _))) ?_
  rintro _ _ ⟨p, _, rfl, rfl, rfl⟩
  refine ys_forB K (ι := List Str) (xs := rows.map dRow) (us := fun _ x => [(2, Is K x.1), (3, Is K x.2)]) (fun k d => d = usedOf (rows.take k)) (fun _ => [some (Is K (rows.map dRow)), some (Vl (.ref p)), none, none]) (fun d => [(p, LoL K d)]) ?_ ?_ ?_ ?_ ?_
  · exact yi_list (y_var rfl)
  · exact ⟨[], rfl, Wk1.refl _, List.Sublist.refl _⟩
  · exact fun X d x _ => yg_pair yg_name yg_name
  · rintro X k d _ hx hd
    rw [List.getElem?_map] at hx
    obtain ⟨r, hr, rfl⟩ := Option.map_eq_some_iff.mp hx
    have b1 := lines_small ro
    have b2 : d.length ≤ (usedOf rows).length := by rw [hd]; exact flat_take_len
    have b3 := ro.two r (List.mem_of_getElem? hr)
    rw [used_len] at b2
    refine ys_extendU (i := 1) (j := 0) (xs := d) (ys := r.2) rfl rfl (y_var rfl) (by rw [sizeLine_eq]; omega) ?_
    refine ys_next fun s H a => ⟨d ++ r.2, ?_, a.weak (.keep (.keep (.drop (.drop .nil))))⟩
    unfold usedOf
    rw [flat_take hr, hd]
    rfl
  · rintro d hd
    rw [List.length_map, List.take_length] at hd
    subst hd
    refine ys_free (L1 := []) (L2 := []) (i := 1) rfl ?_
    refine ys_ret (t := Is K (innerOf rows)) (YF.dat (YF.to (yf_lc (vs := [2, 3]) (xs := rows.map dRow) (us := fun y => [(2, Is K y.1), (3, Is K y.2)]) (c := fun y => inB y.1 (usedOf rows)) (f := fun y => y.1) (yi_list (y_var rfl)).loose (by have := ro.len; rw [List.length_map, sizeLine_eq]; omega) (fun D y _ => yg_pair yg_name yg_name) (fun y _ i hi => by simpa using hi) (fun D y _ => ?_) (fun D y _ _ => y_var rfl)) ?_)) hQ
    · exact yt_test (K := K) (Y.loose (y_inT (Y.loose (y_var rfl)) (Y.loose (y_var rfl))))
    · unfold innerOf
      rw [List.filter_map, List.map_map]
      rfl
def NLtuples : List Str := ["_law_rows", "_law_found", "_law_name", "_law_some", "_law_longer", "_law_less", "_law_source"]
theorem scLtuples : FnScope NLtuples ["_law_rows"] (defScope s_Ltuples) := ⟨rfl, rfl, rfl, by decide +kernel, rfl, by decide +kernel, by decide +kernel⟩
abbrev spLtuples (K : PySem.W.Frag) : Sp := sp1 (fun _ (rows : List NRow) => RowsOk rows ∧ rows.length ≤ 9) (fun rows : List NRow => Is K (rows.map dRow)) fun rows => Is K ((tuplesOf rows).map Tup.mk)
theorem ok_Ltuples (M : Md K mg) : Cal P w K mg base 1 "_law_tuples" ["_law_rows"] (spLtuples K) := by
  obtain ⟨fd, F⟩ := M.d_Ltuples
  refine cal_mk F M.o_law_tuples scLtuples (fun _ _ _ _ _ _ us hl => match us, hl with | [_], _ => rfl) (fun _ => rfl) rfl fun cdv A outer s W A' H rows Q E hr0 hp ok hQ => ?_
  obtain ⟨ro, hl⟩ := hp
  have hl : rows.length ≤ 9 := hl
  have nd := scLtuples.nd
  refine ⟨_,     (pss_cons (ps_set (i := 1) nd rfl (Or.inl rfl) (pe_lst (pa_cons (pe_tup pa_nil) pa_nil)))
    (pss_cons (ps_for PassesOwn.never rfl (k_list K (pe_slice (k_slL K) (pv 0) (po_some pe_int) po_none)) (k_pg K (n := 2) (pgs_cons (pg_name (i := 2) nd rfl (Or.inl rfl)) (pgs_cons (pg_name (i := 3) nd rfl (Or.inl rfl)) pgs_nil)))
      (pss_cons (ps_set (i := 4) nd rfl (Or.inl rfl) (pe_lst pa_nil))
      (pss_cons (ps_for PassesOwn.never rfl (k_list K (pv 1)) (pg_name (i := 5) nd rfl (Or.inr rfl))
        (pss_cons (ps_expr (k_bm K PySem.F.plainAttrs_list PySem.F.slot_list_extend PySem.F.type_list_extend (k_extend K) (pv 4) (pa_cons (pe_lc rfl nd (k_tup K (pv 3)) (blkOk_by (N := NLtuples) (sc := defScope s_Ltuples) (own := [("_law_source", 6)]) (by decide +kernel)) (fun _ _ _ _ _ => (pg_name (i := 6) nd rfl (Or.inl rfl))) (fun _ _ _ _ _ => pts_nil) (fun _ _ _ _ _ => (pe_op (k_catU K) (pv 5) (pe_tup (pa_cons (pv 6) pa_nil))))) pa_nil)))
        pss_nil))
      (pss_cons (ps_set (i := 1) nd rfl (Or.inl rfl) (pv 4))
      pss_nil))))
    (pss_cons (ps_ret (pv 1))
    pss_nil))), ?_⟩
  dsimp only [cxOf, Cx.nox, Cx.wish]
  show YS ⟨W, A', H, []⟩ [some (Is K (rows.map dRow)), none, none, none, none, none, none] [] _ _
  have ed : cutL (rows.map dRow) (some 1) none = (rows.drop 1).map dRow := by rw [cutL_1d, List.map_drop]
  have dl : (rows.drop 1).length ≤ 8 := by rw [List.length_drop]; omega
  have two : ∀ r, r ∈ rows.drop 1 → r.2.length ≤ 2 := fun r hr => ro.two r (List.mem_of_mem_drop hr)
  have fl : ∀ k, (((rows.drop 1).take k).foldl tupStep [[]]).length ≤ 256 := fun k => by
    have a := tupAll_len ((rows.drop 1).take k) [[]] fun r hr => two r (List.mem_of_mem_take hr)
    rw [List.length_take, List.length_singleton, Nat.one_mul] at a
    have b : 2 ^ (min k (rows.drop 1).length) ≤ 2 ^ 8 := Nat.pow_le_pow_right (by decide) (by omega)
    exact Nat.le_trans a b
  have fe : ∀ k c, c ∈ ((rows.drop 1).take k).foldl tupStep [[]] → c.length ≤ 8 := fun k c hc => by
    have := tupAll_each ((rows.drop 1).take k) [[]] 0 (fun c hc => by rw [List.mem_singleton.mp hc]; rfl) c hc
    rw [List.length_take] at this
    omega
  refine ys_setD (t := Is K [Tup.mk ([] : List Str)]) (YF.dat (yf_lst (yi_cons (y_tupU yi_nil (Nat.zero_le _)) yi_nil) (by show 1 ≤ sizeLine; decide))) ?_
  refine ys_forB K (ι := List (List Str)) (xs := (rows.drop 1).map dRow) (us := fun _ x => [(2, Is K x.1), (3, Is K x.2)]) (fun k d => d = ((rows.drop 1).take k).foldl tupStep [[]]) (fun d => [some (Is K (rows.map dRow)), some (Is K (d.map Tup.mk)), none, none, none, none, none]) (fun _ => []) ?_ ?_ ?_ ?_ ?_
  · exact yi_list (YF.dat (YF.to (yf_slL (Y.q (y_var rfl)) (yo_some (K := K) (Y.loose y_int)) yo_no) ed))
  · exact ⟨[[]], rfl, Wk1.refl _, List.Sublist.refl _⟩
  · exact fun X d x _ => yg_pair yg_name yg_name
  · rintro X k d _ hx hd
    rw [List.getElem?_map] at hx
    obtain ⟨r, hr, rfl⟩ := Option.map_eq_some_iff.mp hx
    have r2 := two r (List.mem_of_getElem? hr)
    have d2 : d.length ≤ 256 := by rw [hd]; exact fl k
    have de : ∀ c, c ∈ d → c.length ≤ 8 := by rw [hd]; exact fe k
    refine ys_set (O := oNew K (· = ([] : List (Tup Str)))) (YF.o (yf_lst yi_nil (Nat.zero_le _))) ?_
    rintro _ _ ⟨p, _, rfl, rfl, rfl⟩
    refine ys_forB K (ι := List (List Str)) (xs := d.map Tup.mk) (us := fun _ x => [(5, Is K x)]) (fun j e => e = tupStep (d.take j) r) (fun _ => [some (Is K (rows.map dRow)), some (Is K (d.map Tup.mk)), some (Is K r.1), some (Is K (Tup.mk r.2)), some (Vl (.ref p)), none, none]) (fun e => [(p, LoL K (e.map Tup.mk))]) ?_ ?_ ?_ ?_ ?_
    · exact yi_list (y_var rfl)
    · exact ⟨[], rfl, Wk1.refl _, List.Sublist.refl _⟩
    · exact fun X d x _ => yg_name
    · rintro X' j e _ hy he
      rw [List.getElem?_map] at hy
      obtain ⟨c, hc, rfl⟩ := Option.map_eq_some_iff.mp hy
      have hcm := List.mem_of_getElem? hc
      have el : e.length ≤ 512 := by
        have := tupStep_len (found := d.take j) r2
        rw [← he, List.length_take] at this
        omega
      refine ys_extend (i := 4) (j := 0) (xs := e.map Tup.mk) (ys := r.2.map fun s => Tup.mk (c ++ [s])) rfl rfl (Y.q (YF.dat (yf_lc1 (vs := [6]) (xs := r.2) (us := fun y => [(6, Is K y)]) (f := fun s => Tup.mk (c ++ [s])) (yi_tup (y_var rfl)).loose (by rw [sizeLine_eq]; omega) (fun D y _ => yg_name) (fun y _ i hi => by simpa using hi) (fun D y _ => y_catU (xs := c) (ys := [y]) (y_var rfl) (y_tupU (yi_cons (y_var rfl) yi_nil) (by show 1 ≤ sizeLine; decide)) ?_)))) (by rw [List.length_map, List.length_map, sizeLine_eq]; omega) ?_
      · have := de c hcm
        rw [sizeLine_eq]
        show c.length + 1 ≤ _
        omega
      refine ys_next fun s H a => ⟨e ++ r.2.map fun s => c ++ [s], ?_, ?_⟩
      · unfold tupStep
        rw [flat_take hc, he]
        rfl
      · show At _ _ [(p, LoL K ((e ++ r.2.map fun s => c ++ [s]).map Tup.mk))] s H
        rw [List.map_append, List.map_map]
        exact a.weak (.keep (.keep (.keep (.keep (.keep (.drop (.keep .nil)))))))
    · rintro e he
      rw [List.length_map, List.take_length] at he
      refine ys_free (L1 := []) (L2 := []) (i := 4) rfl ?_
      refine ys_setD (t := Is K (e.map Tup.mk)) (y_var rfl) ?_
      refine ys_next fun s H a => ⟨e, ?_, a.weak (.keep (.keep (.drop (.drop (.drop (.keep (.keep .nil)))))))⟩
      rw [foldl_take_succ hr, ← hd]
      exact he
  · rintro d hd
    rw [List.length_map, List.take_length] at hd
    exact ys_ret (t := Is K ((tuplesOf rows).map Tup.mk)) (Y.to (y_var rfl) (by rw [hd]; rfl)) hQ
def NLchoices : List Str := ["_law_rows", "_law_inner_here", "_law_row_here", "_law_name"]
theorem scLchoices : FnScope NLchoices ["_law_rows"] (defScope s_Lchoices) := ⟨rfl, rfl, rfl, by decide +kernel, rfl, by decide +kernel, by decide +kernel⟩
abbrev spLchoices (K : PySem.W.Frag) : Sp := sp1 (fun _ (rows : List NRow) => RowsOk rows ∧ rows.length ≤ 9) (fun rows : List NRow => Is K (rows.map dRow)) fun rows => Is K ((choicesOf rows).map Tup.mk)
theorem ok_Lchoices (M : Md K mg) (cLinner : Cal P w K mg base 1 "_law_inner" ["_law_rows"] (spLinner K)) (cLtuples : Cal P w K mg base 1 "_law_tuples" ["_law_rows"] (spLtuples K)) : Cal P w K mg base 2 "_law_choices" ["_law_rows"] (spLchoices K) := by
  obtain ⟨fd, F⟩ := M.d_Lchoices
  refine cal_mk F M.o_law_choices scLchoices (fun _ _ _ _ _ _ us hl => match us, hl with | [_], _ => rfl) (fun _ => rfl) rfl fun cdv A outer s W A' H rows Q E hr1 hp ok hQ => ?_
  obtain ⟨ro, hl⟩ := hp
  have hl : rows.length ≤ 9 := hl
  have hu := hr1.units
  have nd := scLchoices.nd
  refine ⟨_,     (pss_cons (ps_set (i := 1) nd rfl (Or.inr rfl) (pe_cal cLinner hr1 (by rfl) (pa_cons (pv 0) pa_nil)))
    (pss_cons (ps_ret (pe_lc rfl nd (k_list K (pe_cal cLtuples hr1 (by rfl) (pa_cons (pv 0) pa_nil))) (blkOk_by (N := NLchoices) (sc := defScope s_Lchoices) (own := [("_law_row_here", 2)]) (by decide +kernel)) (fun _ _ _ _ _ => (pg_name (i := 2) nd rfl (Or.inr rfl))) (fun _ _ _ _ _ => (pts_one (pt_val (pe_callB (k_all K) (by rfl) M.mall (by decide +kernel) (pa_cons (pe_lc rfl nd (k_list K (pv 1)) (blkOk_by (N := NLchoices) (own := [("_law_name", 3)]) (by show blkC NLchoices (relS _ ((defScope s_Lchoices))) _ _ = true; decide +kernel)) (fun _ _ _ _ _ => (pg_name (i := 3) nd rfl (Or.inl rfl))) (fun _ _ _ _ _ => pts_nil) (fun _ _ _ _ _ => (pe_cmpR (k_in K Str hu) (pv 3) (pv 2) rfl))) pa_nil))))) (fun _ _ _ _ _ => (pv 2))))
    pss_nil)), ?_⟩
  dsimp only [cxOf, Cx.nox, Cx.wish]
  show YS ⟨W, A', H, []⟩ [some (Is K (rows.map dRow)), none, none, none] [] _ _
  have il : (innerOf rows).length ≤ 40 := by
    unfold innerOf
    have := ro.len
    have := List.length_filter_le (fun r => inB r.1 (usedOf rows)) rows
    rw [List.length_map]
    omega
  refine ys_setD (t := Is K (innerOf rows)) (y_call1 (x := rows) (ya_cons (y_var rfl) ya_nil) ro) ?_
  refine ys_ret (t := Is K ((choicesOf rows).map Tup.mk)) (YF.dat (YF.to (yf_lc (vs := [2]) (xs := (tuplesOf rows).map Tup.mk) (us := fun y => [(2, Is K y)]) (c := fun y => ((innerOf rows).map fun x => inB x y.items).all id) (f := id) (yi_list (y_call1 (post := fun rows => Is K ((tuplesOf rows).map Tup.mk)) (x := rows) (ya_cons (y_var rfl) ya_nil) (And.intro ro hl))).loose (by have := tuples_len ro hl; rw [List.length_map, sizeLine_eq]; omega) (fun D y _ => yg_name) (fun y _ i hi => by simpa using hi) (fun D y _ => ?_) (fun D y _ _ => y_var rfl)) ?_)) hQ
  · refine yt_val (K := K) (Y.loose (y_all (Y.loose (YF.dat (yf_lc1 (vs := [3]) (xs := innerOf rows) (us := fun x => [(3, Is K x)]) (f := fun x => inB x y.items) (yi_list (y_var rfl)).loose (by rw [sizeLine_eq]; omega) (fun D x _ => yg_name) (fun x _ i hi => by simpa using hi) (fun D x _ => ?_))))))
    exact y_inU (Y.loose (y_var rfl)) (Y.loose (y_var rfl))
  · unfold choicesOf
    rw [List.map_id, List.filter_map]
    rfl
def NLrow : List Str := ["_law_choice_here", "_law_spots", "_law_at", "_law_source"]
theorem scLrow : FnScope NLrow ["_law_choice_here", "_law_spots"] (defScope s_Lrow) := ⟨rfl, rfl, rfl, by decide +kernel, rfl, by decide +kernel, by decide +kernel⟩
abbrev spLrow (K : PySem.W.Frag) : Sp := sp2 (fun _ (c : List Str) (spots : List (Int × Str)) => spots.length ≤ 80 ∧ ∀ p, p ∈ spots → 0 ≤ p.1 ∧ p.1 < c.length) (fun c : List Str => Is K (Tup.mk c)) (fun spots : List (Int × Str) => Is K spots) fun c spots => Is K (rowC c spots)
theorem ok_Lrow (M : Md K mg) : Cal P w K mg base 1 "_law_row" ["_law_choice_here", "_law_spots"] (spLrow K) := by
  obtain ⟨fd, F⟩ := M.d_Lrow
  refine cal_mk F M.o_law_row scLrow (fun _ _ _ _ _ _ us hl => match us, hl with | [_, _], _ => rfl) (fun _ => rfl) rfl fun cdv A outer s W A' H i Q E hr0 hp ok hQ => ?_
  obtain ⟨c, spots⟩ := i
  obtain ⟨h1, h2⟩ := hp
  have h1 : spots.length ≤ 80 := h1
  have hu := hr0.units
  have nd := scLrow.nd
  refine ⟨_,     (pss_cons (ps_ret (pe_lc rfl nd (k_list K (pv 1)) (blkOk_by (N := NLrow) (sc := defScope s_Lrow) (own := [("_law_at", 2), ("_law_source", 3)]) (by decide +kernel)) (fun _ _ _ _ _ => (k_pg K (n := 2) (pgs_cons (pg_name (i := 2) nd rfl (Or.inl rfl)) (pgs_cons (pg_name (i := 3) nd rfl (Or.inl rfl)) pgs_nil)))) (fun _ _ _ _ _ => pts_nil) (fun _ _ _ _ _ => (pe_cmpR (k_eq K Str hu) (pe_ix (k_ixU K) (pv 0) (pv 2) (fun _ _ => rfl)) (pv 3) (nomark _)))))
    pss_nil), ?_⟩
  dsimp only [cxOf, Cx.nox, Cx.wish]
  show YS ⟨W, A', H, []⟩ [some (Is K (Tup.mk c)), some (Is K spots), none, none] [] _ _
  refine ys_ret (t := Is K (rowC c spots)) (YF.dat (yf_lc1 (vs := [2, 3]) (xs := spots) (us := fun y => [(2, Is K y.1), (3, Is K y.2)]) (f := fun p => decide (c.getD p.1.toNat Str.empty = p.2)) (yi_list (y_var rfl)).loose (by rw [sizeLine_eq]; omega) (fun D y _ => yg_pair yg_name yg_name) (fun y _ i hi => by simpa using hi) (fun D y hy => ?_))) hQ
  obtain ⟨b1, b2⟩ := h2 y hy
  have b2 : y.1 < (c.length : Int) := b2
  have e : ((y.1.toNat : Nat) : Int) = y.1 := Int.toNat_of_nonneg b1
  have hn : y.1.toNat < c.length := by omega
  have at_ : atI c y.1 = some (c.getD y.1.toNat Str.empty) := by
    rw [← e, List.getD_eq_getElem?_getD]
    refine atI_nat ?_
    rw [Int.toNat_natCast, List.getElem?_eq_getElem hn]
    rfl
  exact y_eqT (Y.loose (y_ixU (y_var rfl) (Y.loose (y_var rfl)) at_)) (Y.loose (y_var rfl))
def NLtable : List Str := ["_law_rows", "_law_chosen", "_law_heads", "_law_spots", "_law_name", "_law_some", "_law_source", "_law_child", "_law_choice_here"]
theorem scLtable : FnScope NLtable ["_law_rows", "_law_chosen"] (defScope s_Ltable) := ⟨rfl, rfl, rfl, by decide +kernel, rfl, by decide +kernel, by decide +kernel⟩
abbrev spLtable (K : PySem.W.Frag) : Sp := sp2 (fun _ (rows : List NRow) (cs : List (List Str)) => RowsOk rows ∧ cs.length ≤ 1000 ∧ ∀ c, c ∈ cs → c.length = rows.length - 1) (fun rows : List NRow => Is K (rows.map dRow)) (fun cs : List (List Str) => Is K (cs.map Tup.mk)) fun rows cs => Is K (tableOf rows cs)
theorem ok_Ltable (M : Md K mg) (cLlines : Cal P w K mg base 1 "_law_lines" ["_law_rows"] (spLlines K)) (cLrow : Cal P w K mg base 1 "_law_row" ["_law_choice_here", "_law_spots"] (spLrow K)) : Cal P w K mg base 2 "_law_table" ["_law_rows", "_law_chosen"] (spLtable K) := by
  obtain ⟨fd, F⟩ := M.d_Ltable
  refine cal_mk F M.o_law_table scLtable (fun _ _ _ _ _ _ us hl => match us, hl with | [_, _], _ => rfl) (fun _ => rfl) rfl fun cdv A outer s W A' H i Q E hr1 hp ok hQ => ?_
  obtain ⟨rows, cs⟩ := i
  obtain ⟨ro, h1, h2⟩ := hp
  have ro : RowsOk rows := ro
  have h1 : cs.length ≤ 1000 := h1
  have h2 : ∀ c, c ∈ cs → c.length = rows.length - 1 := h2
  have hu := hr1.units
  have nd := scLtable.nd
  refine ⟨_,     (pss_cons (ps_set (i := 2) nd rfl (Or.inr rfl) (pe_lc rfl nd (k_list K (pe_slice (k_slL K) (pv 0) (po_some pe_int) po_none)) (blkOk_by (N := NLtable) (sc := defScope s_Ltable) (own := [("_law_name", 4), ("_law_some", 5)]) (by decide +kernel)) (fun _ _ _ _ _ => (k_pg K (n := 2) (pgs_cons (pg_name (i := 4) nd rfl (Or.inl rfl)) (pgs_cons (pg_name (i := 5) nd rfl (Or.inl rfl)) pgs_nil)))) (fun _ _ _ _ _ => pts_nil) (fun _ _ _ _ _ => (pv 4))))
    (pss_cons (ps_set (i := 3) nd rfl (Or.inr rfl) (pe_lc rfl nd (k_list K (pe_cal cLlines hr1 (by rfl) (pa_cons (pv 0) pa_nil))) (blkOk_by (N := NLtable) (sc := defScope s_Ltable) (own := [("_law_source", 6), ("_law_child", 7)]) (by decide +kernel)) (fun _ _ _ _ _ => (k_pg K (n := 2) (pgs_cons (pg_name (i := 6) nd rfl (Or.inl rfl)) (pgs_cons (pg_name (i := 7) nd rfl (Or.inl rfl)) pgs_nil)))) (fun _ _ _ _ _ => pts_nil) (fun _ _ _ _ _ => (pe_tup (pa_cons (k_bm K PySem.F.plainAttrs_list PySem.F.slot_list_index PySem.F.type_list_index (k_indexT K Str hu) (pv 2) (pa_cons (pv 7) pa_nil)) (pa_cons (pv 6) pa_nil))))))
    (pss_cons (ps_ret (pe_lc rfl nd (k_list K (pv 1)) (blkOk_by (N := NLtable) (sc := defScope s_Ltable) (own := [("_law_choice_here", 8)]) (by decide +kernel)) (fun _ _ _ _ _ => (pg_name (i := 8) nd rfl (Or.inl rfl))) (fun _ _ _ _ _ => pts_nil) (fun _ _ _ _ _ => (pe_cal cLrow hr1 (by rfl) (pa_cons (pv 8) (pa_cons (pv 3) pa_nil))))))
    pss_nil))), ?_⟩
  dsimp only [cxOf, Cx.nox, Cx.wish]
  show YS ⟨W, A', H, []⟩ [some (Is K (rows.map dRow)), some (Is K (cs.map Tup.mk)), none, none, none, none, none, none, none] [] _ _
  have hl := ro.len
  have ll := lines_small ro
  have ed : cutL (rows.map dRow) (some 1) none = (rows.drop 1).map dRow := by rw [cutL_1d, List.map_drop]
  have hdl : (headsOf rows).length = rows.length - 1 := by unfold headsOf; rw [List.length_map, List.length_drop]
  refine ys_setD (t := Is K (headsOf rows)) (YF.dat (YF.to (yf_lc1 (vs := [4, 5]) (xs := (rows.drop 1).map dRow) (us := fun y => [(4, Is K y.1), (5, Is K y.2)]) (f := fun y => y.1) (yi_list (YF.dat (YF.to (yf_slL (Y.q (y_var rfl)) (yo_some (K := K) (Y.loose y_int)) yo_no) ed))).loose (by rw [List.length_map, List.length_drop, sizeLine_eq]; omega) (fun D y _ => yg_pair yg_name yg_name) (fun y _ i hi => by simpa using hi) (fun D y _ => y_var rfl)) ?_)) ?_
  · rw [List.map_map]
    rfl
  refine ys_setD (t := Is K (spotsOf rows)) (YF.dat (yf_lc1 (vs := [6, 7]) (xs := linesOf rows) (us := fun y => [(6, Is K y.1), (7, Is K y.2)]) (f := fun l => ((idxB l.2 (headsOf rows) : Int), l.1)) (yi_list (y_call1 (post := fun rows => Is K (linesOf rows)) (x := rows) (ya_cons (y_var rfl) ya_nil) ro)).loose (by rw [sizeLine_eq]; omega) (fun D y _ => yg_pair yg_name yg_name) (fun y _ i hi => by simpa using hi) (fun D y hy => ?_))) ?_
  · exact y_pair (y_indexT (Y.loose (y_var rfl)) (Y.loose (y_var rfl)) (by rw [hdl, sizeLine_eq]; omega) (lines_head ro hy)) (y_var rfl)
  refine ys_ret (t := Is K (tableOf rows cs)) (YF.dat (YF.to (yf_lc1 (vs := [8]) (xs := cs.map Tup.mk) (us := fun y => [(8, Is K y)]) (f := fun y => rowC y.items (spotsOf rows)) (yi_list (y_var rfl)).loose (by rw [List.length_map, sizeLine_eq]; omega) (fun D y _ => yg_name) (fun y _ i hi => by simpa using hi) (fun D y hy => ?_)) ?_)) hQ
  · obtain ⟨c, hc, rfl⟩ := List.mem_map.mp hy
    refine y_call2 (x := c) (y := spotsOf rows) (ya_cons (y_var rfl) (ya_cons (y_var rfl) ya_nil)) ⟨by unfold spotsOf; rw [List.length_map]; exact ll, fun p hp => ?_⟩
    obtain ⟨l, hl', rfl⟩ := List.mem_map.mp hp
    have := idxB_lt (lines_head ro hl')
    have := h2 c hc
    constructor
    · exact Int.natCast_nonneg _
    · show ((idxB l.2 (headsOf rows) : Nat) : Int) < (c.length : Int)
      omega
  · rw [List.map_map]
    rfl
def NLtotal : List Str := ["_law_loads_here", "_law_row_here", "_law_load", "_law_keeps"]
theorem scLtotal : FnScope NLtotal ["_law_loads_here", "_law_row_here"] (defScope s_Ltotal) := ⟨rfl, rfl, rfl, by decide +kernel, rfl, by decide +kernel, by decide +kernel⟩
abbrev spLtotal (K : PySem.W.Frag) : Sp := sp2 (fun _ (ws : List Int) (ks : List Bool) => ws.length ≤ 1000) (fun ws : List Int => Is K (Tup.mk ws)) (fun ks : List Bool => Is K ks) fun ws ks => Is K (totalOf ws ks)
theorem ok_Ltotal (M : Md K mg) : Cal P w K mg base 1 "_law_total" ["_law_loads_here", "_law_row_here"] (spLtotal K) := by
  obtain ⟨fd, F⟩ := M.d_Ltotal
  refine cal_mk F M.o_law_total scLtotal (fun _ _ _ _ _ _ us hl => match us, hl with | [_, _], _ => rfl) (fun _ => rfl) rfl fun cdv A outer s W A' H i Q E hr0 hp ok hQ => ?_
  obtain ⟨ws, ks⟩ := i
  have hp : ws.length ≤ 1000 := hp
  have nd := scLtotal.nd
  refine ⟨_,     (pss_cons (ps_ret (pe_callB (k_sum K) (by rfl) M.msum (by decide +kernel) (pa_cons (pe_lc rfl nd (k_zip K true false (by rfl) M.mzip (pa_cons (pv 0) (pa_cons (pv 1) pa_nil))) (blkOk_by (N := NLtotal) (sc := defScope s_Ltotal) (own := [("_law_load", 2), ("_law_keeps", 3)]) (by decide +kernel)) (fun _ _ _ _ _ => (k_pg K (n := 2) (pgs_cons (pg_name (i := 2) nd rfl (Or.inl rfl)) (pgs_cons (pg_name (i := 3) nd rfl (Or.inl rfl)) pgs_nil)))) (fun _ _ _ _ _ => (pts_one (pt_val (pv 3)))) (fun _ _ _ _ _ => (pv 2))) pa_nil)))
    pss_nil), ?_⟩
  dsimp only [cxOf, Cx.nox, Cx.wish]
  show YS ⟨W, A', H, []⟩ [some (Is K (Tup.mk ws)), some (Is K ks), none, none] [] _ _
  refine ys_ret (t := Is K (totalOf ws ks)) (y_sum (Y.loose (YF.dat (yf_lc (vs := [2, 3]) (xs := ws.zip ks) (us := fun y => [(2, Is K y.1), (3, Is K y.2)]) (c := fun p => p.2) (f := fun p => p.1) (yi_zip (b1 := true) (b2 := false) (ya_cons (y_var rfl) (ya_cons (y_var rfl) ya_nil))).loose (by have := Nat.min_le_left ws.length ks.length; rw [List.length_zip, sizeLine_eq]; omega) (fun D y _ => yg_pair yg_name yg_name) (fun y _ i hi => by simpa using hi) (fun D y _ => yt_val (K := K) (Y.loose (y_var rfl))) (fun D y _ _ => y_var rfl))))) hQ
def NLdue : List Str := ["_law_totals", "_law_flags", "_law_with_line", "_law_without", "_law_total_here", "_law_keeps"]
theorem scLdue : FnScope NLdue ["_law_totals", "_law_flags"] (defScope s_Ldue) := ⟨rfl, rfl, rfl, by decide +kernel, rfl, by decide +kernel, by decide +kernel⟩
abbrev spLdue (K : PySem.W.Frag) : Sp := sp2 (fun _ (ts : List Int) (fs : List Bool) => ts.length ≤ 16000000) (fun ts : List Int => Is K ts) (fun fs : List Bool => Is K fs) fun ts fs => OI K (dueOf ts fs)
theorem ok_Ldue (M : Md K mg) : Cal P w K mg base 1 "_law_due" ["_law_totals", "_law_flags"] (spLdue K) := by
  obtain ⟨fd, F⟩ := M.d_Ldue
  refine cal_mk F M.o_law_due scLdue (fun _ _ _ _ _ _ us hl => match us, hl with | [_, _], _ => rfl) (fun _ => rfl) rfl fun cdv A outer s W A' H i Q E hr0 hp ok hQ => ?_
  obtain ⟨ts, fs⟩ := i
  have hp : ts.length ≤ 16000000 := hp
  have hu := hr0.units
  have nd := scLdue.nd
  refine ⟨_,     (pss_cons (ps_setLc (i := 2) rfl nd rfl rfl (sw_true rfl rfl rfl (by decide +kernel)) (k_zip K false false (by rfl) M.mzip (pa_cons (pv 0) (pa_cons (pv 1) pa_nil))) (blkOk_by (N := NLdue) (sc := defScope s_Ldue) (own := [("_law_total_here", 4), ("_law_keeps", 5)]) (by decide +kernel)) (fun _ _ _ _ _ => (k_pg K (n := 2) (pgs_cons (pg_name (i := 4) nd rfl (Or.inl rfl)) (pgs_cons (pg_name (i := 5) nd rfl (Or.inl rfl)) pgs_nil)))) (fun _ _ _ _ _ => (pts_one (pt_val (pv 5)))) (fun _ _ _ _ _ => (pv 4)))
    (pss_cons (ps_setLc (i := 3) rfl nd rfl rfl (sw_true rfl rfl rfl (by decide +kernel)) (k_zip K false false (by rfl) M.mzip (pa_cons (pv 0) (pa_cons (pv 1) pa_nil))) (blkOk_by (N := NLdue) (sc := defScope s_Ldue) (own := [("_law_total_here", 4), ("_law_keeps", 5)]) (by decide +kernel)) (fun _ _ _ _ _ => (k_pg K (n := 2) (pgs_cons (pg_name (i := 4) nd rfl (Or.inl rfl)) (pgs_cons (pg_name (i := 5) nd rfl (Or.inl rfl)) pgs_nil)))) (fun _ _ _ _ _ => (pts_one (pt_not (pt_val (pv 5))))) (fun _ _ _ _ _ => (pv 4)))
    (pss_cons (ps_if (PW.pt (pw_or (pt_cmpR (k_eq K (List Int) hu) (pv 2) (pe_lst pa_nil) (nomark _)) (pw_or1 (pt_cmpR (k_eq K (List Int) hu) (pv 3) (pe_lst pa_nil) (nomark _)))))
      (pss_cons (ps_ret pe_non)
      pss_nil)
      pss_nil)
    (pss_cons (ps_ret (pe_op op_sub (pe_callB (k_max K) (by rfl) M.mmax (by decide +kernel) (pa_cons (pv 2) pa_nil)) (pe_callB (k_max K) (by rfl) M.mmax (by decide +kernel) (pa_cons (pv 3) pa_nil))))
    pss_nil)))), ?_⟩
  dsimp only [cxOf, Cx.nox, Cx.wish]
  show YS ⟨W, A', H, []⟩ [some (Is K ts), some (Is K fs), none, none, none, none] [] _ _
  have zl : (ts.zip fs).length ≤ sizeLine := by have := Nat.min_le_left ts.length fs.length; rw [List.length_zip, sizeLine_eq]; omega
  refine ys_setD (t := Is K (withOf ts fs)) (YF.dat (yf_lc (vs := [4, 5]) (xs := ts.zip fs) (us := fun y => [(4, Is K y.1), (5, Is K y.2)]) (c := fun p => p.2) (f := fun p => p.1) (yi_zip (b1 := false) (b2 := false) (ya_cons (y_var rfl) (ya_cons (y_var rfl) ya_nil))).loose zl (fun D y _ => yg_pair yg_name yg_name) (fun y _ i hi => by simpa using hi) (fun D y _ => yt_val (K := K) (Y.loose (y_var rfl))) (fun D y _ _ => y_var rfl))) ?_
  refine ys_setD (t := Is K (woOf ts fs)) (YF.dat (yf_lc (vs := [4, 5]) (xs := ts.zip fs) (us := fun y => [(4, Is K y.1), (5, Is K y.2)]) (c := fun p => !p.2) (f := fun p => p.1) (yi_zip (b1 := false) (b2 := false) (ya_cons (y_var rfl) (ya_cons (y_var rfl) ya_nil))).loose zl (fun D y _ => yg_pair yg_name yg_name) (fun y _ i hi => by simpa using hi) (fun D y _ => yt_not (yt_val (K := K) (Y.loose (y_var rfl)))) (fun D y _ _ => y_var rfl))) ?_
  have nil : ∀ {B : Bs} {g : Slots} {L : Ls}, YL B g L (tLst tNil) (Is K ([] : List Int)) := Y.loose (YF.dat (yf_lst yi_nil (Nat.zero_le _)))
  refine ys_if (c := decide (withOf ts fs = []) || decide (woOf ts fs = [])) ?_ (fun h => ?_) fun h => ys_then ?_
  · exact yt_or (yt_test (K := K) (Y.loose (y_eqT (Y.loose (y_var rfl)) nil))) fun _ => yt_test (K := K) (Y.loose (y_eqT (Y.loose (y_var rfl)) nil))
  · have e : dueOf ts fs = none := by
      unfold dueOf
      rw [if_pos h]
    have hQ : Rt _ (OI K (dueOf ts fs)) _ := hQ
    rw [e] at hQ
    exact ys_ret (t := Vl .non) y_vl hQ
  · have e : dueOf ts fs = some (mxI (withOf ts fs) - mxI (woOf ts fs)) := by
      unfold dueOf
      rw [if_neg (by rw [h]; exact Bool.false_ne_true)]
    have hQ : Rt _ (OI K (dueOf ts fs)) _ := hQ
    rw [e] at hQ
    obtain ⟨h1, h2⟩ := Bool.or_eq_false_iff.mp h
    exact ys_ret (t := Is K (mxI (withOf ts fs) - mxI (woOf ts fs))) (y_opI (f := fun i j => i - j) (Y.loose (y_max (Y.loose (y_var rfl)) (of_decide_eq_false h1))) (Y.loose (y_max (Y.loose (y_var rfl)) (of_decide_eq_false h2)))) hQ
end
end K29
set_option Elab.async false
set_option linter.all false
set_option maxRecDepth 100000
set_option maxHeartbeats 4000000
/-! The law's defs: zigzags, their kept ways, loads. -/
namespace K29
open PySem PySem.Spec PyProof.Rows L2 G PySem.W
def nearOf (lines found : List Ln) : List Ln := lines.filter fun l => !inB l found && (inB l.1 (found.map (·.1)) || inB l.2 (found.map (·.2)))
def zigAt (lines : List Ln) (line : Ln) : Nat → List Ln
  | 0 => [line]
  | k + 1 => zigAt lines line k ++ nearOf lines (zigAt lines line k)
def zigOf (lines : List Ln) (line : Ln) : List Ln := zigAt lines line lines.length
theorem zig_len (lines : List Ln) (line : Ln) : ∀ k, (zigAt lines line k).length ≤ 1 + k * lines.length
  | 0 => by simp [zigAt]
  | k + 1 => by
    have a := zig_len lines line k
    have b : (nearOf lines (zigAt lines line k)).length ≤ lines.length := List.length_filter_le _ _
    rw [zigAt, List.length_append, Nat.succ_mul]
    omega
theorem zig_stop {lines : List Ln} {line : Ln} {k : Nat} (h : nearOf lines (zigAt lines line k) = []) : ∀ m, zigAt lines line (k + m) = zigAt lines line k
  | 0 => rfl
  | m + 1 => by
    rw [← Nat.add_assoc, zigAt, zig_stop h m, h, List.append_nil]
def chStep (cs : List Str) (l : Ln) : List Str := if !inB l.2 cs then cs ++ [l.2] else cs
def childrenOf (group : List Ln) : List Str := group.foldl chStep []
def keptStep (group : List Ln) (found : List (List Ln)) (c : Str) : List (List Ln) := found.flatMap fun less => (group.filter fun l => decide (l.2 = c)).map fun l => less ++ [l]
def waysOf (group : List Ln) : List (List Ln) := ((childrenOf group).foldl (keptStep group) [[]]).filter fun one => ((group.map (·.1)).map fun s => inB s (one.map (·.1))).all id
structure GrpOk (group : List Ln) : Prop where
  len : group.length ≤ 80
  ch : (childrenOf group).length ≤ 23
  two : ∀ c, (group.filter fun l => decide (l.2 = c)).length ≤ 2
theorem ch_len (group : List Ln) : ∀ cs : List Str, (group.foldl chStep cs).length ≤ cs.length + group.length := by
  induction group with
  | nil => intro cs; exact Nat.le_refl _
  | cons l ls ih =>
    intro cs
    have a := ih (chStep cs l)
    have b : (chStep cs l).length ≤ cs.length + 1 := by
      unfold chStep
      split
      · rw [List.length_append]; exact Nat.le_refl _
      · omega
    rw [List.foldl_cons, List.length_cons]
    omega
theorem kept_len {group : List Ln} (h : ∀ c, (group.filter fun l => decide (l.2 = c)).length ≤ 2) {found : List (List Ln)} {c : Str} : (keptStep group found c).length ≤ found.length * 2 := by
  unfold keptStep
  induction found with
  | nil => simp
  | cons x xs ih =>
    have := h c
    rw [List.flatMap_cons, List.length_append, List.length_map, List.length_cons]
    omega
theorem keptAll_len {group : List Ln} (h : ∀ c, (group.filter fun l => decide (l.2 = c)).length ≤ 2) : ∀ (cs : List Str) (found : List (List Ln)), (cs.foldl (keptStep group) found).length ≤ found.length * 2 ^ cs.length
  | [], found => by simp
  | c :: cs, found => by
    have a := keptAll_len h cs (keptStep group found c)
    have b := kept_len h (found := found) (c := c)
    rw [List.foldl_cons, List.length_cons, Nat.pow_succ]
    calc _ ≤ _ := a
      _ ≤ found.length * 2 * 2 ^ cs.length := Nat.mul_le_mul_right _ b
      _ = found.length * (2 ^ cs.length * 2) := by rw [Nat.mul_assoc, Nat.mul_comm 2]
theorem keptStep_each {group : List Ln} {found : List (List Ln)} {c : Str} {n : Nat} (h : ∀ w, w ∈ found → w.length = n) : ∀ w, w ∈ keptStep group found c → w.length = n + 1 := fun w hw => by
  obtain ⟨x, hx, h2⟩ := List.mem_flatMap.mp hw
  obtain ⟨s, _, e⟩ := List.mem_map.mp h2
  rw [← e, List.length_append, h x hx]
  rfl
theorem keptAll_each {group : List Ln} : ∀ (cs : List Str) (found : List (List Ln)) (n : Nat), (∀ w, w ∈ found → w.length = n) → ∀ w, w ∈ cs.foldl (keptStep group) found → w.length = n + cs.length
  | [], _, _, h => h
  | c :: cs, found, n, h => fun w hw => by
    have := keptAll_each cs (keptStep group found c) (n + 1) (keptStep_each h) w hw
    rw [List.length_cons]
    omega
def WtOk (x : Int) : Prop := -1000000000000 ≤ x ∧ x ≤ 1000000000000
section
variable {P : Program} {w : World} {K : PySem.W.Frag} {mg : Str → Option Value} {base : Heap}
def NLzigzag : List Str := ["_law_lines_here", "_law_line", "_law_found", "_law_turn", "_law_ends", "_law_near", "_law_one"]
theorem scLzigzag : FnScope NLzigzag ["_law_lines_here", "_law_line"] (defScope s_Lzigzag) := ⟨rfl, rfl, rfl, by decide +kernel, rfl, by decide +kernel, by decide +kernel⟩
abbrev spLzigzag (K : PySem.W.Frag) : Sp := sp2 (fun _ (lines : List Ln) _ => lines.length ≤ 80) (fun lines : List Ln => Is K lines) (fun line : Ln => Is K line) fun lines line => Is K (zigOf lines line)
theorem ok_Lzigzag (M : Md K mg) : Cal P w K mg base 1 "_law_zigzag" ["_law_lines_here", "_law_line"] (spLzigzag K) := by
  obtain ⟨fd, F⟩ := M.d_Lzigzag
  refine cal_mk F M.o_law_zigzag scLzigzag (fun _ _ _ _ _ _ us hl => match us, hl with | [_, _], _ => rfl) (fun _ => rfl) rfl fun cdv A outer s W A' H i Q E hr0 hp ok hQ => ?_
  obtain ⟨lines, line⟩ := i
  have hl : lines.length ≤ 80 := hp
  have hu := hr0.units
  have nd := scLzigzag.nd
  refine ⟨_,     (pss_cons (ps_set (i := 2) nd rfl (Or.inr rfl) (pe_lst (pa_cons (pv 1) pa_nil)))
    (pss_cons (ps_for PassesOwn.never rfl (pi_range1 (by rfl) M.mrange (pa_cons (pe_callB (k_len K) (by rfl) M.mlen PySem.boot_len (pa_cons (pv 0) pa_nil)) pa_nil)) (pg_name (i := 3) nd rfl (Or.inl rfl))
      (pss_cons (ps_set (i := 4) nd rfl (Or.inr rfl) (pe_lst (pa_cons (pe_lc rfl nd (k_list K (pv 2)) (blkOk_by (N := NLzigzag) (sc := defScope s_Lzigzag) (own := [("_law_one", 6)]) (by decide +kernel)) (fun _ _ _ _ _ => (pg_name (i := 6) nd rfl (Or.inl rfl))) (fun _ _ _ _ _ => pts_nil) (fun _ _ _ _ _ => (pe_ix (k_ixU K) (pv 6) pe_int (fun _ _ => rfl)))) (pa_cons (pe_lc rfl nd (k_list K (pv 2)) (blkOk_by (N := NLzigzag) (sc := defScope s_Lzigzag) (own := [("_law_one", 6)]) (by decide +kernel)) (fun _ _ _ _ _ => (pg_name (i := 6) nd rfl (Or.inl rfl))) (fun _ _ _ _ _ => pts_nil) (fun _ _ _ _ _ => (pe_ix (k_ixU K) (pv 6) pe_int (fun _ _ => rfl)))) pa_nil))))
      (pss_cons (ps_setLc (i := 5) rfl nd rfl rfl (sw_true rfl rfl rfl (by decide +kernel)) (k_list K (pv 0)) (blkOk_by (N := NLzigzag) (sc := defScope s_Lzigzag) (own := [("_law_one", 6)]) (by decide +kernel)) (fun _ _ _ _ _ => (pg_name (i := 6) nd rfl (Or.inl rfl))) (fun _ _ _ _ _ => (pts_one (PW.pt (pw_and (pt_cmpR (k_notIn K (Str × Str) hu) (pv 6) (pv 2) rfl) (pw_and1 (PW.pt (pw_or (pt_cmpR (k_in K Str hu) (pe_ix (k_ixU K) (pv 6) pe_int (fun _ _ => rfl)) (pe_ix (k_ixL K) (pv 4) pe_int (fun _ _ => rfl)) rfl) (pw_or1 (pt_cmpR (k_in K Str hu) (pe_ix (k_ixU K) (pv 6) pe_int (fun _ _ => rfl)) (pe_ix (k_ixL K) (pv 4) pe_int (fun _ _ => rfl)) rfl))))))))) (fun _ _ _ _ _ => (pv 6)))
      (pss_cons (ps_if (pt_cmpR (k_eq K (List (Str × Str)) hu) (pv 5) (pe_lst pa_nil) (nomark _))
        (pss_cons (ps_break)
        pss_nil)
        pss_nil)
      (pss_cons (ps_expr (k_bm K PySem.F.plainAttrs_list PySem.F.slot_list_extend PySem.F.type_list_extend (k_extend K) (pv 2) (pa_cons (pv 5) pa_nil)))
      pss_nil)))))
    (pss_cons (ps_ret (pv 2))
    pss_nil))), ?_⟩
  dsimp only [cxOf, Cx.nox, Cx.wish]
  show YS ⟨W, A', H, []⟩ [some (Is K lines), some (Is K line), none, none, none, none, none] [] _ _
  refine ys_set (O := oNew K (· = [line])) (YF.o (yf_lst (yi_cons (y_var rfl) yi_nil) (by show 1 ≤ sizeLine; decide))) ?_
  rintro _ _ ⟨p, _, rfl, rfl, rfl⟩
  have fin : ∀ X, YS ((⟨W, A', H, []⟩ : Bs).x X) [some (Is K lines), some (Is K line), some (Vl (.ref p)), none, none, none, none] [(p, LoL K (zigOf lines line))] (tSeq (tRet (tVar 2)) tNext) { nx := fun _ H' => Q .non H', rt := Q } := fun X => by
    refine ys_free (L1 := []) (L2 := []) (i := 2) rfl ?_
    exact ys_ret (t := Is K (zigOf lines line)) (y_var rfl) hQ
  refine ys_forB K (ι := List Ln) (xs := rngI 0 ((lines.length : Int)).toNat) (us := fun _ x => [(3, Is K x)]) (fun k d => d = zigAt lines line k) (fun _ => [some (Is K lines), some (Is K line), some (Vl (.ref p)), none, none, none, none]) (fun d => [(p, LoL K d)]) ?_ ?_ ?_ ?_ ?_
  · exact yi_range1 (yal_cons (Y.loose (y_lenL (Y.loose (y_var rfl)))) yal_nil) (by omega) (by omega)
  · exact ⟨[line], rfl, Wk1.refl _, List.Sublist.refl _⟩
  · exact fun X d x _ => yg_name
  · rintro X k d x hx hd
    have hk : k < lines.length := by
      have := (List.getElem?_eq_some_iff.mp hx).1
      rw [rngI_length] at this
      omega
    have dl : d.length ≤ 6401 := by
      have := zig_len lines line k
      have : k * lines.length ≤ 80 * 80 := Nat.mul_le_mul (by omega) hl
      rw [hd]
      omega
    have at0 : ∀ (a b : List Str), atI [a, b] (0 : Int) = some a := fun a b => atI_nat (xs := [a, b]) (j := 0) rfl
    have at1 : ∀ (a b : List Str), atI [a, b] (1 : Int) = some b := fun a b => atI_nat (xs := [a, b]) (j := 1) rfl
    refine ys_setD (t := Is K [d.map (·.1), d.map (·.2)]) (YF.dat (yf_lst (yi_cons (YF.dat (yf_lc1 (vs := [6]) (xs := d) (us := fun y => [(6, Is K y)]) (f := fun y => y.1) (yil_list (yq_loc (j := 0) rfl rfl)) (by rw [sizeLine_eq]; omega) (fun D y _ => yg_name) (fun y _ i hi => by simpa using hi) (fun D y _ => y_ix0 (y_var rfl))))
      (yi_cons (YF.dat (yf_lc1 (vs := [6]) (xs := d) (us := fun y => [(6, Is K y)]) (f := fun y => y.2) (yil_list (yq_loc (j := 0) rfl rfl)) (by rw [sizeLine_eq]; omega) (fun D y _ => yg_name) (fun y _ i hi => by simpa using hi) (fun D y _ => y_ix1 (y_var rfl)))) yi_nil)) (by show 2 ≤ sizeLine; decide))) ?_
    refine ys_setD (t := Is K (nearOf lines d)) (YF.dat (YF.to (yf_lc (vs := [6]) (xs := lines) (us := fun y => [(6, Is K y)]) (c := fun l => !inB l d && (inB l.1 (d.map (·.1)) || inB l.2 (d.map (·.2)))) (f := id) (yi_list (y_var rfl)).loose (by rw [sizeLine_eq]; omega) (fun D y _ => yg_name) (fun y _ i hi => by simpa using hi) (fun D y _ => ?_) (fun D y _ _ => y_var rfl)) (by rw [List.map_id]; rfl))) ?_
    · exact yt_and (yt_test (K := K) (Y.loose (y_notInT (Y.loose (y_var rfl)) (yq_loc (j := 0) rfl rfl).loose))) fun _ => yt_or (yt_test (K := K) (Y.loose (y_inT (Y.loose (y_ix0 (y_var rfl))) (Y.loose (y_ixL (Y.q (y_var rfl)) (Y.loose y_int) (at0 _ _)))))) fun _ => yt_test (K := K) (Y.loose (y_inT (Y.loose (y_ix1 (y_var rfl))) (Y.loose (y_ixL (Y.q (y_var rfl)) (Y.loose y_int) (at1 _ _)))))
    refine ys_if (c := decide (nearOf lines d = [])) (yt_test (K := K) (Y.loose (y_eqT (Y.loose (y_var rfl)) (Y.loose (YF.dat (yf_lst yi_nil (Nat.zero_le _))))))) (fun h => ?_) fun h => ys_then ?_
    · refine ys_break fun s H a => fin X s H ?_
      have e : d = zigOf lines line := by
        have h := of_decide_eq_true h
        rw [hd] at h
        have := zig_stop h (lines.length - k)
        rw [show k + (lines.length - k) = lines.length by omega] at this
        rw [hd]
        exact this.symm
      rw [← e]
      exact a.weak (.keep (.keep (.keep (.drop (.drop (.drop (.keep .nil)))))))
    · refine ys_extend (i := 2) (j := 0) (xs := d) (ys := nearOf lines d) rfl rfl (Y.q (y_var rfl)) (by have : (nearOf lines d).length ≤ lines.length := List.length_filter_le _ _; rw [sizeLine_eq]; omega) ?_
      refine ys_next fun s H a => ⟨d ++ nearOf lines d, ?_, a.weak (.keep (.keep (.keep (.drop (.drop (.drop (.keep .nil)))))))⟩
      rw [zigAt, hd]
  · rintro d hd
    rw [rngI_length, Int.toNat_natCast] at hd
    subst hd
    exact fin []
def NLkept_ways : List Str := ["_law_group", "_law_children", "_law_found", "_law_source", "_law_child", "_law_longer", "_law_less", "_law_sources", "_law_line", "_law_one"]
theorem scLkept_ways : FnScope NLkept_ways ["_law_group"] (defScope s_Lkept_ways) := ⟨rfl, rfl, rfl, by decide +kernel, rfl, by decide +kernel, by decide +kernel⟩
abbrev spLkept (K : PySem.W.Frag) : Sp := sp1 (fun _ (group : List Ln) => GrpOk group) (fun group : List Ln => Is K group) fun group => Is K ((waysOf group).map Tup.mk)
theorem ok_Lkept (M : Md K mg) : Cal P w K mg base 1 "_law_kept_ways" ["_law_group"] (spLkept K) := by
  obtain ⟨fd, F⟩ := M.d_Lkept_ways
  refine cal_mk F M.o_law_kept_ways scLkept_ways (fun _ _ _ _ _ _ us hl => match us, hl with | [_], _ => rfl) (fun _ => rfl) rfl fun cdv A outer s W A' H gr Q E hr0 hp ok hQ => ?_
  have go : GrpOk gr := hp
  have hl := go.len
  have hu := hr0.units
  have nd := scLkept_ways.nd
  refine ⟨_,     (pss_cons (ps_par (i := 1) (j := 2) (by rfl) nd rfl rfl (by decide) rfl rfl (pa_cons (pe_lst pa_nil) (pa_cons (pe_lst (pa_cons (pe_tup pa_nil) pa_nil)) pa_nil)) (by rfl))
    (pss_cons (ps_for PassesOwn.never rfl (k_list K (pv 0)) (k_pg K (n := 2) (pgs_cons (pg_name (i := 3) nd rfl (Or.inl rfl)) (pgs_cons (pg_name (i := 4) nd rfl (Or.inr rfl)) pgs_nil)))
      (pss_cons (ps_if (pt_cmpR (k_notIn K Str hu) (pv 4) (pv 1) rfl)
        (pss_cons (ps_expr (k_bm K PySem.F.plainAttrs_list PySem.F.slot_list_append PySem.F.type_list_append mt_append (pv 1) (pa_cons (pv 4) pa_nil)))
        pss_nil)
        pss_nil)
      pss_nil))
    (pss_cons (ps_for PassesOwn.never rfl (k_list K (pv 1)) (pg_name (i := 4) nd rfl (Or.inr rfl))
      (pss_cons (ps_set (i := 5) nd rfl (Or.inl rfl) (pe_lst pa_nil))
      (pss_cons (ps_for PassesOwn.never rfl (k_list K (pv 2)) (pg_name (i := 6) nd rfl (Or.inr rfl))
        (pss_cons (ps_expr (k_bm K PySem.F.plainAttrs_list PySem.F.slot_list_extend PySem.F.type_list_extend (k_extend K) (pv 5) (pa_cons (pe_lc rfl nd (k_list K (pv 0)) (blkOk_by (N := NLkept_ways) (sc := defScope s_Lkept_ways) (own := [("_law_line", 8)]) (by decide +kernel)) (fun _ _ _ _ _ => (pg_name (i := 8) nd rfl (Or.inl rfl))) (fun _ _ _ _ _ => (pts_one (pt_cmpR (k_eq K Str hu) (pe_ix (k_ixU K) (pv 8) pe_int (fun _ _ => rfl)) (pv 4) (nomark _)))) (fun _ _ _ _ _ => (pe_op (k_catU K) (pv 6) (pe_tup (pa_cons (pv 8) pa_nil))))) pa_nil)))
        pss_nil))
      (pss_cons (ps_set (i := 2) nd rfl (Or.inl rfl) (pv 5))
      pss_nil))))
    (pss_cons (ps_set (i := 7) nd rfl (Or.inr rfl) (pe_lc rfl nd (k_list K (pv 0)) (blkOk_by (N := NLkept_ways) (sc := defScope s_Lkept_ways) (own := [("_law_source", 3), ("_law_child", 4)]) (by decide +kernel)) (fun _ _ _ _ _ => (k_pg K (n := 2) (pgs_cons (pg_name (i := 3) nd rfl (Or.inl rfl)) (pgs_cons (pg_name (i := 4) nd rfl (Or.inl rfl)) pgs_nil)))) (fun _ _ _ _ _ => pts_nil) (fun _ _ _ _ _ => (pv 3))))
    (pss_cons (ps_ret (pe_lc rfl nd (k_list K (pv 2)) (blkOk_by (N := NLkept_ways) (sc := defScope s_Lkept_ways) (own := [("_law_one", 9)]) (by decide +kernel)) (fun _ _ _ _ _ => (pg_name (i := 9) nd rfl (Or.inr rfl))) (fun _ _ _ _ _ => (pts_one (pt_val (pe_callB (k_all K) (by rfl) M.mall (by decide +kernel) (pa_cons (pe_lc rfl nd (k_list K (pv 7)) (blkOk_by (N := NLkept_ways) (own := [("_law_source", 3)]) (by show blkC NLkept_ways (relS _ ((defScope s_Lkept_ways))) _ _ = true; decide +kernel)) (fun _ _ _ _ _ => (pg_name (i := 3) nd rfl (Or.inl rfl))) (fun _ _ _ _ _ => pts_nil) (fun _ _ _ _ _ => (pe_cmpR (k_in K Str hu) (pv 3) (pe_lc rfl nd (k_tup K (pv 9)) (blkOk_by (N := NLkept_ways) (own := [("_law_line", 8)]) (by show blkC NLkept_ways (relS _ (relS _ ((defScope s_Lkept_ways)))) _ _ = true; decide +kernel)) (fun _ _ _ _ _ => (pg_name (i := 8) nd rfl (Or.inl rfl))) (fun _ _ _ _ _ => pts_nil) (fun _ _ _ _ _ => (pe_ix (k_ixU K) (pv 8) pe_int (fun _ _ => rfl)))) rfl))) pa_nil))))) (fun _ _ _ _ _ => (pv 9))))
    pss_nil))))), ?_⟩
  dsimp only [cxOf, Cx.nox, Cx.wish]
  show YS ⟨W, A', H, []⟩ [some (Is K gr), none, none, none, none, none, none, none, none, none] [] _ _
  refine ys_par (O1 := oNew K (· = ([] : List Str))) (O2 := oDat (Is K [Tup.mk ([] : List Ln)])) (YF.o (yf_lst yi_nil (Nat.zero_le _))) (fun u L1 _ => Y.o (YF.dat (yf_lst (yi_cons (y_tupU yi_nil (Nat.zero_le _)) yi_nil) (by show 1 ≤ sizeLine; decide)))) ?_
  rintro _ _ _ _ ⟨p, _, rfl, rfl, rfl⟩ ⟨rfl, rfl⟩
  refine ys_forB K (ι := List Str) (xs := gr) (us := fun _ x => [(3, Is K x.1), (4, Is K x.2)]) (fun k d => d = (gr.take k).foldl chStep []) (fun _ => [some (Is K gr), some (Vl (.ref p)), some (Is K [Tup.mk ([] : List Ln)]), none, none, none, none, none, none, none]) (fun d => [(p, LoL K d)]) ?_ ?_ ?_ ?_ ?_
  · exact yi_list (y_var rfl)
  · exact ⟨[], rfl, Wk1.refl _, List.Sublist.refl _⟩
  · exact fun X d x _ => yg_pair yg_name yg_name
  · rintro X k d l hx hd
    have dl : d.length ≤ 80 := by
      have := ch_len (gr.take k) []
      rw [← hd, List.length_take] at this
      have z : ([] : List Str).length = 0 := rfl
      omega
    have tk := foldl_take_succ (f := chStep) (b := ([] : List Str)) hx
    rw [← hd] at tk
    refine ys_if (c := !inB l.2 d) (yt_test (K := K) (Y.loose (y_notInT (Y.loose (y_var rfl)) (yq_loc (j := 0) rfl rfl).loose))) (fun h => ?_) fun h => ?_
    · refine ys_append (i := 1) (j := 0) (x := l.2) rfl rfl (y_var rfl) (by rw [sizeLine_eq]; omega) ?_
      refine ys_then (ys_next fun s H a => ⟨d ++ [l.2], ?_, a.weak (.keep (.keep (.keep (.drop (.drop (.keep (.keep (.keep (.keep (.keep .nil))))))))))⟩)
      rw [tk, chStep, if_pos h]
    · refine ys_then (ys_next fun s H a => ⟨d, ?_, a.weak (.keep (.keep (.keep (.drop (.drop (.keep (.keep (.keep (.keep (.keep .nil))))))))))⟩)
      rw [tk, chStep, if_neg (by rw [h]; exact Bool.false_ne_true)]
  rintro d hd
  rw [List.take_length] at hd
  have hd : d = childrenOf gr := hd
  subst hd
  refine ys_free (L1 := []) (L2 := []) (i := 1) rfl ?_
  have cl := go.ch
  have fl : ∀ k, (((childrenOf gr).take k).foldl (keptStep gr) [[]]).length ≤ 8388608 := fun k => by
    have a := keptAll_len go.two ((childrenOf gr).take k) [[]]
    rw [List.length_take, List.length_singleton, Nat.one_mul] at a
    have b : 2 ^ (min k (childrenOf gr).length) ≤ 2 ^ 23 := Nat.pow_le_pow_right (by decide) (by omega)
    exact Nat.le_trans a b
  have fe : ∀ k c, c ∈ ((childrenOf gr).take k).foldl (keptStep gr) [[]] → c.length ≤ 23 := fun k c hc => by
    have := keptAll_each ((childrenOf gr).take k) [[]] 0 (fun c hc => by rw [List.mem_singleton.mp hc]; rfl) c hc
    rw [List.length_take] at this
    omega
  refine ys_forB K (ι := List (List Ln)) (xs := childrenOf gr) (us := fun _ x => [(4, Is K x)]) (fun k d => d = ((childrenOf gr).take k).foldl (keptStep gr) [[]]) (fun d => [some (Is K gr), some (Is K (childrenOf gr)), some (Is K (d.map Tup.mk)), none, none, none, none, none, none, none]) (fun _ => []) ?_ ?_ ?_ ?_ ?_
  · exact yi_list (y_var rfl)
  · exact ⟨[[]], rfl, Wk1.refl _, List.Sublist.refl _⟩
  · exact fun X d x _ => yg_name
  · rintro X k d c hx hd
    have d2 : d.length ≤ 8388608 := by rw [hd]; exact fl k
    have de : ∀ c, c ∈ d → c.length ≤ 23 := by rw [hd]; exact fe k
    have c2 := go.two c
    refine ys_set (O := oNew K (· = ([] : List (Tup Ln)))) (YF.o (yf_lst yi_nil (Nat.zero_le _))) ?_
    rintro _ _ ⟨p, _, rfl, rfl, rfl⟩
    refine ys_forB K (ι := List (List Ln)) (xs := d.map Tup.mk) (us := fun _ x => [(6, Is K x)]) (fun j e => e = keptStep gr (d.take j) c) (fun _ => [some (Is K gr), some (Is K (childrenOf gr)), some (Is K (d.map Tup.mk)), none, some (Is K c), some (Vl (.ref p)), none, none, none, none]) (fun e => [(p, LoL K (e.map Tup.mk))]) ?_ ?_ ?_ ?_ ?_
    · exact yi_list (y_var rfl)
    · exact ⟨[], rfl, Wk1.refl _, List.Sublist.refl _⟩
    · exact fun X d x _ => yg_name
    · rintro X' j e _ hy he
      rw [List.getElem?_map] at hy
      obtain ⟨v, hc, rfl⟩ := Option.map_eq_some_iff.mp hy
      have hcm := List.mem_of_getElem? hc
      have hj : j < d.length := (List.getElem?_eq_some_iff.mp hc).1
      have el : e.length + 2 ≤ 16777216 := by
        have := kept_len go.two (found := d.take j) (c := c)
        rw [← he, List.length_take] at this
        omega
      refine ys_extend (i := 5) (j := 0) (xs := e.map Tup.mk) (ys := (gr.filter fun l => decide (l.2 = c)).map fun l => Tup.mk (v ++ [l])) rfl rfl (Y.q (YF.dat (yf_lc (vs := [8]) (xs := gr) (us := fun y => [(8, Is K y)]) (c := fun l => decide (l.2 = c)) (f := fun l => Tup.mk (v ++ [l])) (yi_list (y_var rfl)).loose (by rw [sizeLine_eq]; omega) (fun D y _ => yg_name) (fun y _ i hi => by simpa using hi) (fun D y _ => ?_) (fun D y _ _ => y_catU (xs := v) (ys := [y]) (y_var rfl) (y_tupU (yi_cons (y_var rfl) yi_nil) (by show 1 ≤ sizeLine; decide)) ?_)))) (by rw [List.length_map, List.length_map, sizeLine_eq]; omega) ?_
      · exact yt_test (K := K) (Y.loose (y_eqT (Y.loose (y_ix1 (y_var rfl))) (Y.loose (y_var rfl))))
      · have := de v hcm
        rw [sizeLine_eq]
        show v.length + 1 ≤ _
        omega
      refine ys_next fun s H a => ⟨e ++ (gr.filter fun l => decide (l.2 = c)).map fun l => v ++ [l], ?_, ?_⟩
      · unfold keptStep
        rw [flat_take hc, he]
        rfl
      · show At _ _ [(p, LoL K ((e ++ (gr.filter fun l => decide (l.2 = c)).map fun l => v ++ [l]).map Tup.mk))] s H
        rw [List.map_append, List.map_map]
        exact a.weak (.keep (.keep (.keep (.keep (.keep (.keep (.drop (.keep (.keep (.keep .nil))))))))))
    · rintro e he
      rw [List.length_map, List.take_length] at he
      refine ys_free (L1 := []) (L2 := []) (i := 5) rfl ?_
      refine ys_setD (t := Is K (e.map Tup.mk)) (y_var rfl) ?_
      refine ys_next fun s H a => ⟨e, ?_, a.weak (.keep (.keep (.keep (.keep (.drop (.drop (.keep (.keep (.keep (.keep .nil))))))))))⟩
      rw [foldl_take_succ hx, ← hd]
      exact he
  rintro d hd
  rw [List.take_length] at hd
  have d2 : d.length ≤ 8388608 := by
    have := fl (childrenOf gr).length
    rw [List.take_length] at this
    rw [hd]; exact this
  have de : ∀ c, c ∈ d → c.length ≤ 23 := fun c hc => by
    have := fe (childrenOf gr).length c
    rw [List.take_length, ← hd] at this
    exact this hc
  refine ys_setD (t := Is K (gr.map (·.1))) (YF.dat (yf_lc1 (vs := [3, 4]) (xs := gr) (us := fun y => [(3, Is K y.1), (4, Is K y.2)]) (f := fun y => y.1) (yi_list (y_var rfl)).loose (by rw [sizeLine_eq]; omega) (fun D y _ => yg_pair yg_name yg_name) (fun y _ i hi => by simpa using hi) (fun D y _ => y_var rfl))) ?_
  refine ys_ret (t := Is K ((waysOf gr).map Tup.mk)) (YF.dat (YF.to (yf_lc (vs := [9]) (xs := d.map Tup.mk) (us := fun y => [(9, Is K y)]) (c := fun y => ((gr.map (·.1)).map fun s => inB s (y.items.map (·.1))).all id) (f := id) (yi_list (y_var rfl)).loose (by rw [List.length_map, sizeLine_eq]; omega) (fun D y _ => yg_name) (fun y _ i hi => by simpa using hi) (fun D y hy => ?_) (fun D y _ _ => y_var rfl)) ?_)) hQ
  · obtain ⟨v, hv, rfl⟩ := List.mem_map.mp hy
    have vl := de v hv
    refine yt_val (K := K) (Y.loose (y_all (Y.loose (YF.dat (yf_lc1 (vs := [3]) (xs := gr.map (·.1)) (us := fun x => [(3, Is K x)]) (f := fun x => inB x (v.map (·.1))) (yi_list (y_var rfl)).loose (by rw [List.length_map, sizeLine_eq]; omega) (fun D x _ => yg_name) (fun x _ i hi => by simpa using hi) (fun D x _ => ?_))))))
    exact y_inT (Y.loose (y_var rfl)) (Y.loose (YF.dat (yf_lc1 (vs := [8]) (xs := v) (us := fun x => [(8, Is K x)]) (f := fun x => x.1) (yi_tup (y_var rfl)).loose (by rw [sizeLine_eq]; omega) (fun D x _ => yg_name) (fun x _ i hi => by simpa using hi) (fun D x _ => y_ix0 (y_var rfl)))))
  · unfold waysOf
    rw [List.map_id, List.filter_map, ← hd]
    rfl
end
end K29
set_option Elab.async false
set_option linter.all false
set_option maxRecDepth 100000
set_option maxHeartbeats 4000000
/-! The law's defs: loads, blocks. -/
namespace K29
open PySem PySem.Spec PyProof.Rows L2 G PySem.W
def LdOk (n : Nat) (ws : List Int) : Prop := ws.length = n ∧ ∀ x, x ∈ ws → WtOk x
theorem LdOk.more {n : Nat} {ws : List Int} {x : Int} (h : LdOk n ws) (hx : WtOk x) : LdOk (n + 1) (ws ++ [x]) := ⟨by rw [List.length_append, h.1]; rfl, fun y hy => (List.mem_append.mp hy).elim (h.2 y) fun z => by rw [List.mem_singleton.mp z]; exact hx⟩
def linkAt (row : List Str) (k : Int) : Tup Str := Tup.mk [row.getD k.toNat Str.empty, row.getD (k + 1).toNat Str.empty]
def linksS (row : List Str) : List (List Str) := (row.zip (row.drop 1)).map fun p => [p.1, p.2]
theorem links_eq (row : List Str) : (rngI 0 ((row.length : Int) - 1).toNat).map (linkAt row) = (linksS row).map Tup.mk := by
  unfold linksS
  refine List.ext_getElem? fun i => ?_
  rw [List.getElem?_map, List.getElem?_map, List.getElem?_map]
  by_cases h : i < row.length - 1
  · have e1 : (rngI 0 ((row.length : Int) - 1).toNat)[i]? = some ((i : Nat) : Int) := by
      unfold rngI
      rw [List.getElem?_map, List.getElem?_range (by omega)]
      simp
    have e2 : (row.zip (row.drop 1))[i]? = some (row[i], row[i + 1]) := by
      rw [List.getElem?_zip_eq_some]
      refine ⟨List.getElem?_eq_getElem (by omega), ?_⟩
      rw [List.getElem?_drop, Nat.add_comm]
      exact List.getElem?_eq_getElem (by omega)
    rw [e1, e2]
    show some (linkAt row (i : Int)) = some (Tup.mk [row[i], row[i + 1]])
    unfold linkAt
    rw [show ((i : Int) + 1).toNat = i + 1 by omega, show ((i : Nat) : Int).toNat = i from rfl, List.getD_eq_getElem?_getD, List.getD_eq_getElem?_getD, List.getElem?_eq_getElem (by omega), List.getElem?_eq_getElem (by omega)]
    rfl
  · have e1 : (rngI 0 ((row.length : Int) - 1).toNat)[i]? = none := List.getElem?_eq_none (by rw [rngI_length]; omega)
    have e2 : (row.zip (row.drop 1))[i]? = none := List.getElem?_eq_none (by rw [List.length_zip, List.length_drop]; omega)
    rw [e1, e2]
    rfl
def stD : Str := Str.empty
def blockOf (row : List Str) (form : Str) : List (List Str) :=
  if decide (form = "even") then [[row.headD stD]] ++ linksS row else
  if decide (form = "ring") && decide ((0 : Int) < (row.length : Int) - 1) then linksS row ++ [[row.getLastD stD, row.headD stD]] else
  if decide (form = "short") && decide ((0 : Int) < (row.length : Int) - 1) then linksS row else ([[row.headD stD]] ++ linksS row) ++ [[row.getLastD stD]]
theorem linksS_len (row : List Str) : (linksS row).length = row.length - 1 := by
  unfold linksS
  rw [List.length_map, List.length_zip, List.length_drop]
  omega
theorem headS_at {row : List Str} (h : row ≠ []) : atI row (0 : Int) = some (row.headD stD) := by
  cases row with
  | nil => exact absurd rfl h
  | cons a l => exact atI_nat (xs := a :: l) (j := 0) rfl
theorem lastS_at {row : List Str} (h : row ≠ []) : atI row ((row.length : Int) - 1) = some (row.getLastD stD) := by
  have hl : 0 < row.length := List.length_pos_iff.mpr h
  rw [show (row.length : Int) - 1 = ((row.length - 1 : Nat) : Int) by omega]
  refine atI_nat ?_
  rw [List.getLastD_eq_getLast?, List.getLast?_eq_getElem?, List.getElem?_eq_getElem (by omega)]
  rfl
section
variable {P : Program} {w : World} {K : PySem.W.Frag} {mg : Str → Option Value} {base : Heap}
theorem y_draw {B : Bs} {g : Slots} {L : Ls} {E : XK} {ta : TA} {wl : Addr} {m : Int} (hW : B.W = Ww wl) (h : YA B g L ta [Vl (.ref wl), Is K m]) (h1 : 0 < m) (h2 : m < 1073741824) : Y B g L (tCall (spdraw K) [] E ta) (Ex K fun r : Int => 0 ≤ r ∧ r < m) := y_call2 (x := wl) (y := m) h ⟨hW, h1, h2⟩
def NLloads : List Str := ["_law_well_here", "_law_many", "_law_way", "_law_found", "_law_k", "_law_small", "_law_great", "_law_fine"]
theorem scLloads : FnScope NLloads ["_law_well_here", "_law_many"] (defScope s_Lloads) := ⟨rfl, rfl, rfl, by decide +kernel, rfl, by decide +kernel, by decide +kernel⟩
abbrev spLloads (K : PySem.W.Frag) : Sp := sp2 (fun W (wl : Addr) (m : Int) => W = Ww wl ∧ 0 ≤ m ∧ m ≤ 1000) (fun wl : Addr => Vl (.ref wl)) (fun m : Int => Is K m) fun _ m => Ex K fun ws : List Int => LdOk m.toNat ws
theorem ok_Lloads (M : Md K mg) (cLdraw : Cal P w K mg base 1 "_law_draw" ["_law_well_here", "_law_many"] (spdraw K)) : Cal P w K mg base 2 "_law_loads" ["_law_well_here", "_law_many"] (spLloads K) := by
  obtain ⟨fd, F⟩ := M.d_Lloads
  refine cal_mk F M.o_law_loads scLloads (fun _ _ _ _ _ _ us hl => match us, hl with | [_, _], _ => rfl) (fun _ => rfl) rfl fun cdv A outer s W A' H i Q E hr1 hp ok hQ => ?_
  obtain ⟨wl, m⟩ := i
  obtain ⟨hW, h1, h2⟩ := hp
  have hW : W = Ww wl := hW
  have h1 : 0 ≤ m := h1
  have h2 : m ≤ 1000 := h2
  subst hW
  have hu := hr1.units
  have nd := scLloads.nd
  refine ⟨_,     (pss_cons (ps_par (i := 2) (j := 3) (by rfl) nd rfl rfl (by decide) rfl rfl (pa_cons (pe_cal cLdraw hr1 (by rfl) (pa_cons (pv 0) (pa_cons pe_int pa_nil))) (pa_cons (pe_lst pa_nil) pa_nil)) (by rfl))
    (pss_cons (ps_for PassesOwn.never rfl (pi_range1 (by rfl) M.mrange (pa_cons (pv 1) pa_nil)) (pg_name (i := 4) nd rfl (Or.inl rfl))
      (pss_cons (ps_par3 (i := 5) (j := 6) (l := 7) (by rfl) nd rfl rfl rfl (by decide) (by decide) (by decide) rfl rfl rfl (pa_cons (pe_cal cLdraw hr1 (by rfl) (pa_cons (pv 0) (pa_cons pe_int pa_nil))) (pa_cons (pe_cal cLdraw hr1 (by rfl) (pa_cons (pv 0) (pa_cons pe_int pa_nil))) (pa_cons (pe_cal cLdraw hr1 (by rfl) (pa_cons (pv 0) (pa_cons (pe_op op_pow pe_int pe_int) pa_nil))) pa_nil))) (by rfl))
      (pss_cons (ps_if (pt_cmpR (k_eq K Int hu) (pv 2) pe_int (nomark _))
        (pss_cons (ps_expr (k_bm K PySem.F.plainAttrs_list PySem.F.slot_list_append PySem.F.type_list_append mt_append (pv 3) (pa_cons (pe_op op_sub (pv 5) pe_int) pa_nil)))
        pss_nil)
        (pss_cons (ps_if (pt_cmpR (k_eq K Int hu) (pv 2) pe_int (nomark _))
          (pss_cons (ps_expr (k_bm K PySem.F.plainAttrs_list PySem.F.slot_list_append PySem.F.type_list_append mt_append (pv 3) (pa_cons (pe_op op_sub (pe_callB (call_min2 rfl) (by rfl) M.mmin (by decide +kernel) (pa_cons (pe_op op_add (pe_op op_mul (pv 6) (pe_op op_pow pe_int pe_int)) (pv 7)) (pa_cons (pe_op op_mul pe_int (pe_op op_pow pe_int pe_int)) pa_nil))) (pe_op op_pow pe_int pe_int)) pa_nil)))
          pss_nil)
          (pss_cons (ps_expr (k_bm K PySem.F.plainAttrs_list PySem.F.slot_list_append PySem.F.type_list_append mt_append (pv 3) (pa_cons (pe_ifExp (pt_cmpR (k_eq K Int hu) (pv 2) pe_int (nomark _)) (pe_ix (k_ixL K) (pe_lst (pa_cons (pe_op op_pow pe_int pe_int) (pa_cons (pe_un un_neg (pe_op op_pow pe_int pe_int)) (pa_cons pe_int (pa_cons pe_int (pa_cons (pe_un un_neg pe_int) pa_nil)))))) (pv 5) (fun _ _ => rfl)) (pe_op op_mod (pe_callTy call_int1 (by rfl) M.mint (by decide +kernel) (pa_cons (pv 7) pa_nil)) pe_int)) pa_nil)))
          pss_nil))
        pss_nil))
      pss_nil)))
    (pss_cons (ps_ret (pv 3))
    pss_nil))), ?_⟩
  dsimp only [cxOf, Cx.nox, Cx.wish]
  show YS ⟨Ww wl, A', H, []⟩ [some (Vl (.ref wl)), some (Is K m), none, none, none, none, none, none] [] _ _
  refine ys_par (O1 := oEx K fun r : Int => 0 ≤ r ∧ r < 4) (O2 := oNew K (· = ([] : List Int))) (Y.oe (y_draw rfl (ya_cons (y_var rfl) (ya_cons y_int ya_nil)) (by decide) (by decide))) (fun u L1 _ => YF.o (yf_lst yi_nil (Nat.zero_le _))) ?_
  rintro _ _ _ _ ⟨way, hway, rfl, rfl⟩ ⟨p, _, rfl, rfl, rfl⟩
  refine ys_forB K (ι := List Int) (xs := rngI 0 m.toNat) (us := fun _ x => [(4, Is K x)]) (fun k d => LdOk k d) (fun _ => [some (Vl (.ref wl)), some (Is K m), some (Is K way), some (Vl (.ref p)), none, none, none, none]) (fun d => [(p, LoL K d)]) ?_ ?_ ?_ ?_ ?_
  · exact yi_range1 (yal_cons (Y.loose (y_var rfl)) yal_nil) (by omega) (by omega)
  · exact ⟨[], ⟨rfl, fun x hx => absurd hx List.not_mem_nil⟩, Wk1.refl _, List.Sublist.refl _⟩
  · exact fun X d x _ => yg_name
  · rintro X k d x hx hd
    have hk : k < m.toNat := by
      have := (List.getElem?_eq_some_iff.mp hx).1
      rw [rngI_length] at this
      exact this
    have dl : d.length < sizeLine := by rw [hd.1, sizeLine_eq]; omega
    have p6 : ∀ {B : Bs} {g : Slots} {L : Ls}, Y B g L (tOp (rI CPow fun i j => .int (i ^ j.toNat)) (tC (.int 10)) (tC (.int 6))) (Is K (1000000 : Int)) := Y.to (y_opC (f := fun i j => i ^ j.toNat) (Y.loose y_int) (Y.loose y_int) ⟨by decide, by decide, by decide⟩) (by decide)
    have p12 : ∀ {B : Bs} {g : Slots} {L : Ls}, Y B g L (tOp (rI CPow fun i j => .int (i ^ j.toNat)) (tC (.int 10)) (tC (.int 12))) (Is K (1000000000000 : Int)) := Y.to (y_opC (f := fun i j => i ^ j.toNat) (Y.loose y_int) (Y.loose y_int) ⟨by decide, by decide, by decide⟩) (by decide)
    refine ys_par3 (O1 := oEx K fun r : Int => 0 ≤ r ∧ r < 5) (O2 := oEx K fun r : Int => 0 ≤ r ∧ r < 2000001) (O3 := oEx K fun r : Int => 0 ≤ r ∧ r < 1000000) (Y.oe (y_draw rfl (ya_cons (y_var rfl) (ya_cons y_int ya_nil)) (by decide) (by decide))) ?_ ?_ ?_
    · rintro _ _ ⟨sm, _, rfl, rfl⟩
      exact Y.oe (y_draw rfl (ya_cons (y_var rfl) (ya_cons y_int ya_nil)) (by decide) (by decide))
    · rintro _ _ _ _ ⟨sm, _, rfl, rfl⟩ ⟨gr, _, rfl, rfl⟩
      exact Y.oe (y_draw rfl (ya_cons (y_var rfl) (ya_cons p6 ya_nil)) (by decide) (by decide))
    rintro _ _ _ _ _ _ ⟨sm, hs, rfl, rfl⟩ ⟨gr, hg, rfl, rfl⟩ ⟨fi, hf, rfl, rfl⟩
    have next : ∀ (v : Int), WtOk v → ∀ (B : Bs) (s : L2.St) (H : Hp), At B [some (Vl (.ref wl)), some (Is K m), some (Is K way), some (Vl (.ref p)), some (Is K x), some (Is K sm), some (Is K gr), some (Is K fi)] [(p, LoL K (d ++ [v]))] s H → ∃ d', LdOk (k + 1) d' ∧ At B [some (Vl (.ref wl)), some (Is K m), some (Is K way), some (Vl (.ref p)), none, none, none, none] [(p, LoL K d')] s H :=
      fun v hv B s H a => ⟨d ++ [v], hd.more hv, a.weak (.keep (.keep (.keep (.keep (.drop (.drop (.drop (.drop .nil))))))))⟩
    refine ys_if (c := decide (way = 0)) (yt_test (K := K) (Y.loose (y_eqT (Y.loose (y_var rfl)) (Y.loose y_int)))) (fun h => ?_) fun h => ?_
    · refine ys_append (i := 3) (j := 0) (x := sm - 2) rfl rfl (y_opI (f := fun i j => i - j) (Y.loose (y_var rfl)) (Y.loose y_int)) dl ?_
      exact ys_then (ys_next fun s H a => next _ (by unfold WtOk; omega) _ s H a)
    refine ys_if (c := decide (way = 1)) (yt_test (K := K) (Y.loose (y_eqT (Y.loose (y_var rfl)) (Y.loose y_int)))) (fun h => ?_) fun h => ?_
    · refine ys_append (i := 3) (j := 0) (x := (if 2 * 1000000000000 < gr * 1000000 + fi then 2 * 1000000000000 else gr * 1000000 + fi) - 1000000000000) rfl rfl (y_opI (f := fun i j => i - j) (Y.loose (y_min2 (Y.loose (y_opI (f := fun i j => i + j) (Y.loose (y_opC (f := fun i j => i * j) (Y.loose (y_var rfl)) (Y.loose p6) (.inr ⟨by decide, by decide⟩))) (Y.loose (y_var rfl)))) (Y.loose (y_opC (f := fun i j => i * j) (Y.loose y_int) (Y.loose p12) (.inl ⟨by decide, by decide⟩))))) (Y.loose p12)) dl ?_
      refine ys_then (ys_then (ys_next fun s H a => next _ ?_ _ s H a))
      unfold WtOk
      split <;> omega
    · refine ys_appendE (i := 3) (j := 0) (A := WtOk) rfl rfl ?_ dl fun v hv => ys_then (ys_then (ys_next fun s H a => next v hv _ s H a))
      refine y_if (c := decide (way = 2)) (yt_test (K := K) (Y.loose (y_eqT (Y.loose (y_var rfl)) (Y.loose y_int)))) (fun h => ?_) fun h => ?_
      · have hx5 : ∃ v, atI [(1000000000000 : Int), -1000000000000, 0, 1, -1] sm = some v ∧ WtOk v := by
          have e : sm = ((sm.toNat : Nat) : Int) := by omega
          have hn : sm.toNat < 5 := by omega
          rw [e]
          match sm.toNat, hn with
          | 0, _ => exact ⟨_, atI_nat rfl, by unfold WtOk; decide⟩
          | 1, _ => exact ⟨_, atI_nat rfl, by unfold WtOk; decide⟩
          | 2, _ => exact ⟨_, atI_nat rfl, by unfold WtOk; decide⟩
          | 3, _ => exact ⟨_, atI_nat rfl, by unfold WtOk; decide⟩
          | 4, _ => exact ⟨_, atI_nat rfl, by unfold WtOk; decide⟩
        obtain ⟨v, hv, wv⟩ := hx5
        exact (y_ixL (Y.q (YF.dat (yf_lst (yi_cons p12 (yi_cons (y_neg (Y.loose p12)) (yi_cons y_int (yi_cons y_int (yi_cons (y_neg (Y.loose y_int)) yi_nil))))) (by show 5 ≤ sizeLine; decide)))) (Y.loose (y_var rfl)) hv).ex wv
      · refine Y.ex (a := fi % 2) (y_opC (f := fun i j => i % j) (Y.loose (y_intI (Y.loose (y_var rfl)))) (Y.loose y_int) (by decide)) ?_
        unfold WtOk
        omega
  · rintro d hd
    rw [rngI_length] at hd
    refine ys_free (L1 := []) (L2 := []) (i := 3) rfl ?_
    exact ys_ret (t := Ex K fun ws : List Int => LdOk m.toNat ws) ((y_var rfl : Y _ _ _ _ (Is K d)).ex hd) hQ
def NLblock : List Str := ["_law_row_here", "_law_form", "_law_last", "_law_links", "_law_k"]
theorem scLblock : FnScope NLblock ["_law_row_here", "_law_form"] (defScope s_Lblock) := ⟨rfl, rfl, rfl, by decide +kernel, rfl, by decide +kernel, by decide +kernel⟩
abbrev spLblock (K : PySem.W.Frag) : Sp := sp2 (fun _ (row : List Str) (_ : Str) => row ≠ [] ∧ row.length ≤ 40) (fun row : List Str => Is K row) (fun form : Str => Is K form) fun row form => Is K ((blockOf row form).map Tup.mk)
theorem ok_Lblock (M : Md K mg) : Cal P w K mg base 1 "_law_block" ["_law_row_here", "_law_form"] (spLblock K) := by
  obtain ⟨fd, F⟩ := M.d_Lblock
  refine cal_mk F M.o_law_block scLblock (fun _ _ _ _ _ _ us hl => match us, hl with | [_, _], _ => rfl) (fun _ => rfl) rfl fun cdv A outer s W A' H i Q E hr0 hp ok hQ => ?_
  obtain ⟨row, form⟩ := i
  obtain ⟨h1, h2⟩ := hp
  have h1 : row ≠ [] := h1
  have h2 : row.length ≤ 40 := h2
  have hl : 0 < row.length := List.length_pos_iff.mpr h1
  have hu := hr0.units
  have nd := scLblock.nd
  refine ⟨_,     (pss_cons (ps_set (i := 2) nd rfl (Or.inl rfl) (pe_op op_sub (pe_callB (k_len K) (by rfl) M.mlen PySem.boot_len (pa_cons (pv 0) pa_nil)) pe_int))
    (pss_cons (ps_setLc (i := 3) rfl nd rfl rfl (sw_true rfl rfl rfl (by decide +kernel)) (pi_range1 (by rfl) M.mrange (pa_cons (pv 2) pa_nil)) (blkOk_by (N := NLblock) (sc := defScope s_Lblock) (own := [("_law_k", 4)]) (by decide +kernel)) (fun _ _ _ _ _ => (pg_name (i := 4) nd rfl (Or.inl rfl))) (fun _ _ _ _ _ => pts_nil) (fun _ _ _ _ _ => (pe_tup (pa_cons (pe_ix (k_ixL K) (pv 0) (pv 4) (fun _ _ => rfl)) (pa_cons (pe_ix (k_ixL K) (pv 0) (pe_op op_add (pv 4) pe_int) (fun _ _ => rfl)) pa_nil)))))
    (pss_cons (ps_if (pt_cmpR (k_eq K Str hu) (pv 1) pe_str (nomark _))
      (pss_cons (ps_ret (pe_op (k_catL K) (pe_lst (pa_cons (pe_tup (pa_cons (pe_ix (k_ixL K) (pv 0) pe_int (fun _ _ => rfl)) pa_nil)) pa_nil)) (pv 3)))
      pss_nil)
      pss_nil)
    (pss_cons (ps_if (PW.pt (pw_and (pt_cmpR (k_eq K Str hu) (pv 1) pe_str (nomark _)) (pw_and1 (pt_cmpR op_gt (pv 2) pe_int (nomark _)))))
      (pss_cons (ps_ret (pe_op (k_catL K) (pv 3) (pe_lst (pa_cons (pe_tup (pa_cons (pe_ix (k_ixL K) (pv 0) (pv 2) (fun _ _ => rfl)) (pa_cons (pe_ix (k_ixL K) (pv 0) pe_int (fun _ _ => rfl)) pa_nil))) pa_nil))))
      pss_nil)
      pss_nil)
    (pss_cons (ps_if (PW.pt (pw_and (pt_cmpR (k_eq K Str hu) (pv 1) pe_str (nomark _)) (pw_and1 (pt_cmpR op_gt (pv 2) pe_int (nomark _)))))
      (pss_cons (ps_ret (pv 3))
      pss_nil)
      pss_nil)
    (pss_cons (ps_ret (pe_op (k_catL K) (pe_op (k_catL K) (pe_lst (pa_cons (pe_tup (pa_cons (pe_ix (k_ixL K) (pv 0) pe_int (fun _ _ => rfl)) pa_nil)) pa_nil)) (pv 3)) (pe_lst (pa_cons (pe_tup (pa_cons (pe_ix (k_ixL K) (pv 0) (pv 2) (fun _ _ => rfl)) pa_nil)) pa_nil))))
    pss_nil)))))), ?_⟩
  dsimp only [cxOf, Cx.nox, Cx.wish]
  show YS ⟨W, A', H, []⟩ [some (Is K row), some (Is K form), none, none, none] [] _ _
  have ll := linksS_len row
  refine ys_setD (t := Is K ((row.length : Int) - 1)) (y_opI (f := fun i j => i - j) (Y.loose (y_lenL (Y.loose (y_var rfl)))) (Y.loose y_int)) ?_
  refine ys_setD (t := Is K ((linksS row).map Tup.mk)) (YF.dat (YF.to (yf_lc1 (vs := [4]) (xs := rngI 0 ((row.length : Int) - 1).toNat) (us := fun y => [(4, Is K y)]) (f := linkAt row) (yi_range1 (yal_cons (Y.loose (y_var rfl)) yal_nil) (by omega) (by omega)).loose (by rw [rngI_length, sizeLine_eq]; omega) (fun D y _ => yg_name) (fun y _ i hi => by simpa using hi) (fun D y hy => ?_)) (links_eq row))) ?_
  · obtain ⟨k, hk⟩ := List.mem_iff_getElem?.mp hy
    obtain ⟨k1, k2⟩ := rngI_at hk
    have e : y = (k : Int) := by omega
    subst e
    have a1 : atI row ((k : Nat) : Int) = some (row.getD ((k : Int)).toNat Str.empty) := by
      rw [Int.toNat_natCast, List.getD_eq_getElem?_getD]
      refine atI_nat ?_
      rw [List.getElem?_eq_getElem (by omega)]
      rfl
    have a2 : atI row (((k : Nat) : Int) + 1) = some (row.getD ((k : Int) + 1).toNat Str.empty) := by
      rw [show ((k : Int) + 1) = ((k + 1 : Nat) : Int) by omega, Int.toNat_natCast, List.getD_eq_getElem?_getD]
      refine atI_nat ?_
      rw [List.getElem?_eq_getElem (by omega)]
      rfl
    exact y_tupU (yi_cons (y_ixL (Y.q (y_var rfl)) (Y.loose (y_var rfl)) a1) (yi_cons (y_ixL (Y.q (y_var rfl)) (Y.loose (y_opI (f := fun i j => i + j) (Y.loose (y_var rfl)) (Y.loose y_int))) a2) yi_nil)) (by show 2 ≤ sizeLine; decide)
  have h0 := headS_at h1
  have hz := lastS_at h1
  have one : ∀ {B : Bs} {g : Slots} {L : Ls} {te : TE} {x : Str}, Y B g L te (Is K x) → YQ K B g L (tLst (tCons (tTup (tCons te tNil)) tNil)) [Tup.mk [x]] := fun h => Y.q (YF.dat (yf_lst (yi_cons (y_tupU (yi_cons h yi_nil) (by show 1 ≤ sizeLine; decide)) yi_nil) (by show 1 ≤ sizeLine; decide)))
  have hQ : Rt _ (Is K ((blockOf row form).map Tup.mk)) _ := hQ
  unfold blockOf at hQ
  refine ys_if (c := decide (form = "even")) (yt_test (K := K) (Y.loose (y_eqT (Y.loose (y_var rfl)) (Y.loose y_str)))) (fun h => ?_) fun h => ys_then ?_
  · rw [if_pos h, List.map_append] at hQ
    exact ys_ret (YF.dat (yf_cat (one (y_ixL (Y.q (y_var rfl)) (Y.loose y_int) h0)) (Y.q (y_var rfl)) (by rw [List.length_map, sizeLine_eq]; show 1 + _ ≤ _; omega))) hQ
  rw [if_neg (by rw [h]; exact Bool.false_ne_true)] at hQ
  refine ys_if (c := decide (form = "ring") && decide ((0 : Int) < (row.length : Int) - 1)) (yt_and (yt_test (K := K) (Y.loose (y_eqT (Y.loose (y_var rfl)) (Y.loose y_str)))) fun _ => yt_test (K := K) (Y.loose (y_opB (f := fun i j => decide (j < i)) (Y.loose (y_var rfl)) (Y.loose y_int)))) (fun h => ?_) fun h => ys_then ?_
  · rw [if_pos h, List.map_append] at hQ
    exact ys_ret (YF.dat (yf_cat (Y.q (y_var rfl)) (Y.q (YF.dat (yf_lst (yi_cons (y_tupU (yi_cons (y_ixL (Y.q (y_var rfl)) (Y.loose (y_var rfl)) hz) (yi_cons (y_ixL (Y.q (y_var rfl)) (Y.loose y_int) h0) yi_nil)) (by show 2 ≤ sizeLine; decide)) yi_nil) (by show 1 ≤ sizeLine; decide)))) (by rw [List.length_map, sizeLine_eq]; show _ + 1 ≤ _; omega))) hQ
  rw [if_neg (by rw [h]; exact Bool.false_ne_true)] at hQ
  refine ys_if (c := decide (form = "short") && decide ((0 : Int) < (row.length : Int) - 1)) (yt_and (yt_test (K := K) (Y.loose (y_eqT (Y.loose (y_var rfl)) (Y.loose y_str)))) fun _ => yt_test (K := K) (Y.loose (y_opB (f := fun i j => decide (j < i)) (Y.loose (y_var rfl)) (Y.loose y_int)))) (fun h => ?_) fun h => ys_then ?_
  · rw [if_pos h] at hQ
    exact ys_ret (y_var rfl) hQ
  rw [if_neg (by rw [h]; exact Bool.false_ne_true), List.map_append, List.map_append] at hQ
  refine ys_ret (YF.dat (yf_cat (Y.q (YF.dat (yf_cat (one (y_ixL (Y.q (y_var rfl)) (Y.loose y_int) h0)) (Y.q (y_var rfl)) (by rw [List.length_map, sizeLine_eq]; show 1 + _ ≤ _; omega)))) (one (y_ixL (Y.q (y_var rfl)) (Y.loose (y_var rfl)) hz)) ?_)) hQ
  rw [List.length_append, List.length_map, sizeLine_eq]
  show 1 + _ + 1 ≤ _
  omega
def NLways_in : List Str := ["_law_form", "_law_many"]
theorem scLways_in : FnScope NLways_in ["_law_form", "_law_many"] (defScope s_Lways_in) := ⟨rfl, rfl, rfl, by decide +kernel, rfl, by decide +kernel, by decide +kernel⟩
abbrev spLways (K : PySem.W.Frag) : Sp := sp2 (fun _ (_ : Str) (_ : Int) => True) (fun form : Str => Is K form) (fun m : Int => Is K m) fun _ _ => Ex K fun _ : Int => True
theorem ok_Lways (M : Md K mg) : Cal P w K mg base 1 "_law_ways_in" ["_law_form", "_law_many"] (spLways K) := by
  obtain ⟨fd, F⟩ := M.d_Lways_in
  refine cal_mk F M.o_law_ways_in scLways_in (fun _ _ _ _ _ _ us hl => match us, hl with | [_, _], _ => rfl) (fun _ => rfl) rfl fun cdv A outer s W A' H i Q E hr0 hp ok hQ => ?_
  obtain ⟨form, m⟩ := i
  have hu := hr0.units
  have hu1 := hu_of hr0
  have nd := scLways_in.nd
  refine ⟨_,     (pss_cons (ps_if (pt_cmpR (k_eq K Int hu) (pv 1) pe_int (nomark _))
      (pss_cons (ps_ret pe_int)
      pss_nil)
      pss_nil)
    (pss_cons (ps_ret (pe_dget2 hu1 (pe_disp (pps_cons pe_str pe_int (pps_cons pe_str pe_int (pps_cons pe_str pe_int pps_nil))) rfl rfl (by intro z; cases z) (by decide)) (pv 0) (pv 1) ⟨rfl, rfl, rfl, rfl⟩))
    pss_nil)), ?_⟩
  dsimp only [cxOf, Cx.nox, Cx.wish]
  show YS ⟨W, A', H, []⟩ [some (Is K form), some (Is K m)] [] _ _
  refine ys_if (c := decide (m = 1)) (yt_test (K := K) (Y.loose (y_eqT (Y.loose (y_var rfl)) (Y.loose y_int)))) (fun h => ?_) fun h => ys_then ?_
  · exact ys_ret (t := Ex K fun _ : Int => True) ((y_int : Y _ _ _ _ (Is K (1 : Int))).ex trivial) hQ
  refine ys_ret (t := Ex K fun _ : Int => True) ?_ hQ
  intro s' H' a Q' k p hp
  obtain ⟨v0, f1, f2⟩ := a.sg.at_ 0 _ rfl
  obtain ⟨v1, f3, f4⟩ := a.sg.at_ 1 _ rfl
  have f2 := str_rp f2
  have f4 := int_rp f4
  subst f2
  subst f4
  refine ⟨upd_same, [(Sum.inr "ring", .int 2), (Sum.inr "even", .int 1), (Sum.inr "short", .int 0)], rfl, by decide, ?_⟩
  refine ⟨p, rfl, .inl ⟨_, .inl upd_same⟩, .str form, f1, .int m, f3, _, DGet.k (k := Sum.inr form) upd_same, ?_⟩
  have e : ∃ z : Int, (valV (mergeK [] [((Sum.inr "ring" : Key), V.int 2), (Sum.inr "even", .int 1), (Sum.inr "short", .int 0)]) (Sum.inr form : Key)).getD (.int m) = .int z := by
    show ∃ z : Int, (valV (putK (putK (putK [] (Sum.inr "ring" : Key) (V.int 2)) (Sum.inr "even" : Key) (.int 1)) (Sum.inr "short" : Key) (.int 0)) (Sum.inr form : Key)).getD (.int m) = .int z
    rw [valV_put, valV_put, valV_put]
    split
    · exact ⟨_, rfl⟩
    · split
      · exact ⟨_, rfl⟩
      · split
        · exact ⟨_, rfl⟩
        · exact ⟨_, rfl⟩
  obtain ⟨z, e⟩ := e
  rw [e]
  refine k _ _ (fun b o _ q => ?_) (W.jd (fun b hb => ?_) a.hd.ok.j) ⟨z, trivial, rp_int z⟩
  · have n : b ≠ p := fun z => by rw [z, hp] at q; cases q
    rw [upd_ne n, upd_ne n]
    exact q
  · have n := W.jm a.hd.ok.j b hb
    rw [upd_ne fun z => n (by rw [z]; exact hp), upd_ne fun z => n (by rw [z]; exact hp)]
end
end K29
set_option Elab.async false
set_option linter.all false
set_option maxRecDepth 100000
set_option maxHeartbeats 4000000
/-! Plain: a web's text is read back. -/
namespace K29
open PySem PySem.Spec PyProof.Rows L2 G PySem.W TL
theorem lets_range : ∀ c, c ∈ lets.cps.toList → 97 ≤ c ∧ c ≤ 122 := by decide +kernel
theorem NmOk.no {z : Str} (h : NmOk z) {c : Nat} (hc : c < 97) : c ∉ z.cps.toList := fun m => by
  have := lets_range c (h.2.2 c m)
  omega
theorem RowsOk.srcOk {rows : List NRow} (ro : RowsOk rows) {r : NRow} (hr : r ∈ rows) {s : Str} (hs : s ∈ r.2) : NmOk s := by
  obtain ⟨k, hk⟩ := List.mem_iff_getElem?.mp hr
  by_cases z : 0 < k
  · obtain ⟨q, hq, e⟩ := List.mem_map.mp ((ro.src k r hk z).2.2.2 s hs)
    rw [← e]
    exact ro.nm q (List.mem_of_mem_take hq)
  · have z : k = 0 := by omega
    subst z
    rw [ro.hd r hk] at hs
    cases hs
theorem RowsOk.wordOk {rows : List NRow} (ro : RowsOk rows) {r : NRow} (hr : r ∈ rows) : ∀ s, s ∈ r.1 :: r.2 → NmOk s := fun s hs => by
  rcases List.mem_cons.mp hs with e | hs
  · rw [e]; exact ro.nm r hr
  · exact ro.srcOk hr hs
theorem mem_joinL {S : List Nat} {c : Nat} : ∀ {ps : List (List Nat)}, c ∈ joinL S ps → c ∈ S ∨ ∃ p, p ∈ ps ∧ c ∈ p
  | [], h => by cases h
  | [p], h => .inr ⟨p, List.mem_cons_self, h⟩
  | p :: q :: r, h => by
    rcases List.mem_append.mp h with h | h
    · exact .inr ⟨p, List.mem_cons_self, h⟩
    · rcases List.mem_append.mp h with h | h
      · exact .inl h
      · rcases mem_joinL h with h | ⟨z, hz, h⟩
        · exact .inl h
        · exact .inr ⟨z, List.mem_cons_of_mem _ hz, h⟩
theorem join_le (sep : Str) (ps : List Str) : (Txt.join sep ps).length ≤ (ps.map (·.length)).sum + ps.length * sep.length := by
  rw [join_eq]
  exact StrLaws.join_length_le sep ps
theorem sum_le {ps : List Str} {m : Nat} (h : ∀ p, p ∈ ps → p.length ≤ m) : (ps.map (·.length)).sum ≤ ps.length * m := by
  induction ps with
  | nil => simp
  | cons p ps ih =>
    have a := h p List.mem_cons_self
    have b := ih fun q hq => h q (List.mem_cons_of_mem _ hq)
    rw [List.map_cons, List.sum_cons, List.length_cons, Nat.succ_mul]
    omega
theorem row_sum {rows : List NRow} (ro : RowsOk rows) {r : NRow} (hr : r ∈ rows) : ((r.1 :: r.2).map (·.length)).sum + (r.1 :: r.2).length * 1 ≤ 27 := by
  have a := sum_le (m := 8) fun p hp => (ro.wordOk hr p hp).2.1
  have b := ro.two r hr
  rw [List.length_cons] at a ⊢
  omega
theorem rowText_len {rows : List NRow} (ro : RowsOk rows) {r : NRow} (hr : r ∈ rows) : (rowText r).length ≤ 27 := Nat.le_trans (join_le " " (r.1 :: r.2)) (row_sum ro hr)
theorem rows_sum {rows : List NRow} (ro : RowsOk rows) : ((rows.map rowText).map (·.length)).sum + (rows.map rowText).length * 2 ≤ 1160 := by
  have a := sum_le (ps := rows.map rowText) (m := 27) fun p hp => by
    obtain ⟨r, hr, rfl⟩ := List.mem_map.mp hp
    exact rowText_len ro hr
  have b := ro.len
  rw [List.length_map] at a ⊢
  omega
theorem RowsOk.txt {rows : List NRow} (ro : RowsOk rows) (hne : rows ≠ []) : TxtOk rows where
  s1 := split_join (s := 59) (S := [32]) rfl (by decide +kernel) (fun e => hne (List.map_eq_nil_iff.mp e)) fun p hp => by
    obtain ⟨r, hr, rfl⟩ := List.mem_map.mp hp
    intro m
    have m : 59 ∈ tl (rowText r) := m
    unfold rowText at m
    rw [join_eq, tl_join] at m
    rcases mem_joinL m with m | ⟨z, hz, m⟩
    · exact absurd m (by decide +kernel)
    · obtain ⟨s, hs, rfl⟩ := List.mem_map.mp hz
      exact (ro.wordOk hr s hs).no (by decide) m
  s2 := fun r hr => split_join (s := 32) (S := []) rfl (by decide +kernel) (List.cons_ne_nil _ _) fun p hp => (ro.wordOk hr p hp).no (by decide)
  z1 := by
    have a := join_le "; " (rows.map rowText)
    have b := rows_sum ro
    have c : (webText rows).length ≤ _ := a
    have e : (rows.map rowText).length * ("; " : Str).length = (rows.map rowText).length * 2 := rfl
    rw [sizeLine_eq]
    omega
  z2 := fun r hr => by
    have := rowText_len ro hr
    rw [sizeLine_eq]
    omega
theorem RowsOk.join {rows : List NRow} (ro : RowsOk rows) : JoinOk rows where
  a := fun r hr => by
    have := row_sum ro hr
    have e : (r.1 :: r.2).length * (" " : Str).length = (r.1 :: r.2).length * 1 := rfl
    omega
  b := by
    have := rows_sum ro
    have e : (rows.map rowText).length * ("; " : Str).length = (rows.map rowText).length * 2 := rfl
    omega
end K29
set_option Elab.async false
set_option linter.all false
set_option maxRecDepth 100000
set_option maxHeartbeats 4000000
/-! The law's defs: names. -/
namespace G
open PySem PySem.Spec PyProof.Rows L2 PySem.W
section
variable {K : PySem.W.Frag} {B : Bs} {g g1 : Slots} {L L1 : Ls} {te : TE} {tt : TT} {D : Ends} {rest ts tb : TS} {wi : TI} {gt : TG} {vs : List Nat}
variable {α β : Type} [DecidableEq α] [Datum α] [DecidableEq β] [Datum β]
/-- a source that walks one of several lists -/
def YIE (K : PySem.W.Frag) (B : Bs) (g : Slots) (L : Ls) (wi : TI) (A : Int → Prop) (xs : Int → List α) : Prop :=
  ∀ s H, At B g L s H → ∀ R : It → Hp → Prop, (∀ j J S H', A j → Le B.W.M H H' → B.W.J H' → Wk K J (xs j) S → S (vw B L H') (vw B L H') → R J H') → wi s H R
theorem yf_fromE {A : Int → Prop} {xs : Int → List α} {R : List β → Prop} (hi : YIE K B g L wi A xs) (h : ∀ j wi', A j → YI K B g L wi' (xs j) → YF K B g L (tLc wi' gt tt te vs) R) : YF K B g L (tLc wi gt tt te vs) R :=
  fun s H a Q k => hi s H a _ fun j J S H' aj e jj wk q => h j (fun σ H1 Rr => (H1 = H ∧ σ = s) → Rr J H') aj (fun s1 H1 a1 Rr kk => fun ⟨e1, e2⟩ => by subst e1; exact kk J S H' e jj wk q) s H a Q k ⟨rfl, rfl⟩
theorem ys_fromE {A : Int → Prop} {xs : Int → List α} (hi : YIE K B g L wi A xs) (h : ∀ j wi', A j → YI K B g L wi' (xs j) → YS B g L (tSeq (tFor wi' gt tb) rest) D) : YS B g L (tSeq (tFor wi gt tb) rest) D :=
  fun s H a => hi s H a _ fun j J S H' aj e jj wk q => h j (fun σ H1 Rr => (H1 = H ∧ σ = s) → Rr J H') aj (fun s1 H1 a1 Rr kk => fun ⟨e1, e2⟩ => by subst e1; exact kk J S H' e jj wk q) s H a ⟨rfl, rfl⟩
/-- several states lead to one rest -/
theorem ys_keyA {V : Type} {A : V → Prop} {g' : V → Slots} {L' : Ls} (h : ∀ v, A v → YS B (g' v) L' rest D) (k : (∀ v, A v → YS B (g' v) L' rest D) → YS B g L (tSeq ts rest) D) : YS B g L (tSeq ts rest) D := k h
end
end G
namespace K29
open PySem PySem.Spec PyProof.Rows L2 G PySem.W TL
/-! ### names -/
instance (z : Str) : Decidable (NmOk z) := by unfold NmOk; infer_instance
def spAt (k : Int) : Str := (⟨#[lets.cps.toList.getD (k / 26).toNat 0]⟩ : Str) ++ (⟨#[lets.cps.toList.getD (k % 26).toNat 0]⟩ : Str)
def spares : List Str := (rngI 0 60).map spAt
theorem spares_len : spares.length = 60 := by decide +kernel
theorem spares_nodup : spares.Nodup := by decide +kernel
theorem spares_ok : ∀ z, z ∈ spares → NmOk z := by decide +kernel
def OneL (z : Str) : Prop := ∃ c, c ∈ lets.cps.toList ∧ z = (⟨#[c]⟩ : Str)
theorem lets_len : lets.cps.toList.length = 26 := by decide +kernel
theorem lets_at {i : Int} (h1 : 0 ≤ i) (h2 : i < 26) : ∃ c, atI lets.cps.toList i = some c ∧ c ∈ lets.cps.toList := by
  have hn : i.toNat < lets.cps.toList.length := by rw [lets_len]; omega
  refine ⟨lets.cps.toList[i.toNat], ?_, List.getElem_mem hn⟩
  have e := atI_nat (xs := lets.cps.toList) (j := i.toNat) (List.getElem?_eq_getElem hn)
  rwa [show ((i.toNat : Nat) : Int) = i by omega] at e
theorem sub_len {α : Type} [DecidableEq α] : ∀ {xs ys : List α}, xs.Nodup → (∀ x, x ∈ xs → x ∈ ys) → xs.length ≤ ys.length
  | [], _, _, _ => Nat.zero_le _
  | x :: xs, ys, nd, h => by
    have hx := h x List.mem_cons_self
    have nd' := List.nodup_cons.mp nd
    have a := sub_len (xs := xs) (ys := ys.erase x) nd'.2 fun z hz => (List.mem_erase_of_ne fun e => nd'.1 (by rw [← e]; exact hz)).mpr (h z (List.mem_cons_of_mem _ hz))
    have b := List.length_erase_of_mem hx
    have c : 0 < ys.length := List.length_pos_of_mem hx
    rw [List.length_cons]
    omega
theorem joinL_nil : ∀ ps : List (List Nat), joinL [] ps = ps.flatten
  | [] => rfl
  | [p] => by rw [List.flatten_cons, List.flatten_nil, List.append_nil]; rfl
  | p :: q :: r => by
    show p ++ ([] ++ joinL [] (q :: r)) = _
    rw [joinL_nil (q :: r), List.nil_append, List.flatten_cons (l := p)]
theorem join0 {ys : List Str} (h : ∀ y, y ∈ ys → OneL y) : (Txt.join "" ys).length = ys.length ∧ ∀ c, c ∈ (Txt.join "" ys).cps.toList → c ∈ lets.cps.toList := by
  constructor
  · rw [len_tl, join_eq, tl_join]
    show (joinL [] (ys.map tl)).length = _
    rw [joinL_nil, List.length_flatten, List.map_map]
    induction ys with
    | nil => rfl
    | cons y ys ih =>
      obtain ⟨c, _, rfl⟩ := h y List.mem_cons_self
      rw [List.map_cons, List.sum_cons, List.length_cons, ih fun z hz => h z (List.mem_cons_of_mem _ hz)]
      show 1 + ys.length = _
      omega
  · intro c hc
    have hc : c ∈ tl (Txt.join "" ys) := hc
    rw [join_eq, tl_join] at hc
    rcases mem_joinL hc with m | ⟨p, hp, m⟩
    · exact absurd m List.not_mem_nil
    · obtain ⟨y, hy, rfl⟩ := List.mem_map.mp hp
      obtain ⟨d, hd, rfl⟩ := h y hy
      rw [show c = d from List.mem_singleton.mp m]
      exact hd
theorem join_ok {ys : List Str} (h : ∀ y, y ∈ ys → OneL y) (h1 : 1 ≤ ys.length) (h2 : ys.length ≤ 8) : NmOk (Txt.join "" ys) := by
  obtain ⟨a, b⟩ := join0 h
  exact ⟨by omega, by omega, b⟩
theorem oneL_sum {ys : List Str} (h : ∀ y, y ∈ ys → OneL y) : (ys.map (·.length)).sum = ys.length := by
  induction ys with
  | nil => rfl
  | cons y ys ih =>
    obtain ⟨c, _, rfl⟩ := h y List.mem_cons_self
    rw [List.map_cons, List.sum_cons, List.length_cons, ih fun z hz => h z (List.mem_cons_of_mem _ hz)]
    show 1 + ys.length = _
    omega
theorem cutS_eq (z : Str) (lo hi : Option Int) : cutS z lo hi = ⟨(cutL z.cps.toList lo hi).toArray⟩ := by
  unfold cutS cutL
  rw [show z.length = z.cps.toList.length from len_tl z]
def NsOk (n : Nat) (ns : List Str) : Prop := ns.length = n ∧ ns.Nodup ∧ ∀ z, z ∈ ns → NmOk z
theorem NsOk.more {n : Nat} {ns : List Str} {z : Str} (h : NsOk n ns) (h1 : NmOk z) (h2 : z ∉ ns) : NsOk (n + 1) (ns ++ [z]) := by
  refine ⟨by rw [List.length_append, h.1]; rfl, List.nodup_append.mpr ⟨h.2.1, by simp, fun x hx y hy e => ?_⟩, fun x hx => (List.mem_append.mp hx).elim (h.2.2 x) fun e => by rw [List.mem_singleton.mp e]; exact h1⟩
  rw [List.mem_singleton.mp hy] at e
  rw [e] at hx
  exact h2 hx
/-- a sign of the stem changed -/
theorem swap_ok {z y : Str} {i : Nat} (hz : NmOk z) (hi : i < z.length) (hy : OneL y) : NmOk (cutS z none (some (i : Int)) ++ y ++ cutS z (some ((i + 1 : Nat) : Int)) none) := by
  obtain ⟨c, hc, rfl⟩ := hy
  obtain ⟨h1, h2, h3⟩ := hz
  have hl : z.cps.toList.length = z.length := (len_tl z).symm
  rw [cutS_eq, cutS_eq, cutL_take, cutL_drop]
  have e : tl ((⟨(z.cps.toList.take i).toArray⟩ : Str) ++ (⟨#[c]⟩ : Str) ++ (⟨(z.cps.toList.drop (i + 1)).toArray⟩ : Str)) = z.cps.toList.take i ++ [c] ++ z.cps.toList.drop (i + 1) := by
    rw [tl_append, tl_append]
  have el : ((⟨(z.cps.toList.take i).toArray⟩ : Str) ++ (⟨#[c]⟩ : Str) ++ (⟨(z.cps.toList.drop (i + 1)).toArray⟩ : Str)).length = z.length := by
    rw [len_tl, e, List.length_append, List.length_append, List.length_take, List.length_drop]
    show min i z.cps.toList.length + 1 + _ = _
    omega
  refine ⟨by omega, by omega, fun x hx => ?_⟩
  have hx : x ∈ tl ((⟨(z.cps.toList.take i).toArray⟩ : Str) ++ (⟨#[c]⟩ : Str) ++ (⟨(z.cps.toList.drop (i + 1)).toArray⟩ : Str)) := hx
  rw [e] at hx
  rcases List.mem_append.mp hx with hx | hx
  · rcases List.mem_append.mp hx with hx | hx
    · exact h3 x (List.mem_of_mem_take hx)
    · rw [List.mem_singleton.mp hx]
      exact hc
  · exact h3 x (List.mem_of_mem_drop hx)
theorem pd_all {α β : Type} {F : α → β → Prop} {C : β → Prop} (h : ∀ x y, F x y → C y) : ∀ {xs : List α} {ys : List β}, Paired F xs ys → ys.length = xs.length ∧ ∀ y, y ∈ ys → C y
  | _, _, .nil => ⟨rfl, fun y hy => absurd hy List.not_mem_nil⟩
  | _, _, .cons a b => by
    obtain ⟨e, f⟩ := pd_all h b
    refine ⟨by rw [List.length_cons, List.length_cons, e], fun y hy => ?_⟩
    rcases List.mem_cons.mp hy with z | z
    · rw [z]; exact h _ _ a
    · exact f y z
section
variable {P : Program} {w : World} {K : PySem.W.Frag} {mg : Str → Option Value} {base : Heap}
abbrev tChr (K : PySem.W.Frag) : TE := tOp (fun x y H Q => ∃ z i c, x = .str z ∧ y = .int i ∧ z.length ≤ sizeLine ∧ atI z.cps.toList i = some c ∧ Q (.str ⟨#[c]⟩) H) (tVar 2) (tCall (spdraw K) [] E0 (tCons (tVar 0) (tCons (tC (.int 26)) tNil)))
theorem y_chr {B : Bs} {g : Slots} {L : Ls} {wl : Addr} (hW : B.W = Ww wl) (h0 : g[0]? = some (some (Vl (.ref wl)))) (h2 : g[2]? = some (some (Is K lets))) : Y B g L (tChr K) (Ex K OneL) :=
  Y.exm (y_ixSE (Y.loose (y_var h2)) (Y.loose (y_draw hW (ya_cons (y_var h0) (ya_cons y_int ya_nil)) (by decide) (by decide))) (by rw [len_tl, show (tl lets).length = 26 from lets_len, sizeLine_eq]; decide) fun i hi => (lets_at hi.1 hi.2).imp fun c h => h.1) fun z ⟨i, c, hi, hc, e⟩ => by
    obtain ⟨d, h1, h2⟩ := lets_at hi.1 hi.2
    have hi' : atI lets.cps.toList i = some c := hc
    rw [h1] at hi'
    cases hi'
    exact ⟨_, h2, e⟩
theorem y_word {B : Bs} {g : Slots} {L : Ls} {wl : Addr} {wi : TI} {n : Nat} (hW : B.W = Ww wl) (h0 : ∀ y : Int, (setg (wipeg g [n]) [(n, Is K y)])[0]? = some (some (Vl (.ref wl)))) (h2 : ∀ y : Int, (setg (wipeg g [n]) [(n, Is K y)])[2]? = some (some (Is K lets)))
    (hi : YIE K B g L wi (fun j => 1 ≤ j ∧ j ≤ 8) (fun j => rngI 0 j.toNat)) : Y B g L (tM1 (rJoin K) (tC (.str "")) (tLc wi (gName n) tYes (tChr K) [n])) (Ex K NmOk) := by
  refine Y.exm (A := fun z => ∃ ys : List Str, ((∀ y, y ∈ ys → OneL y) ∧ 1 ≤ ys.length ∧ ys.length ≤ 8) ∧ z = Txt.join "" ys) (y_joinE (Y.loose y_str) (Y.loose (YF.ex (yf_fromE hi fun j wi' hj hwi => (yf_lc1R (vs := [n]) (xs := rngI 0 j.toNat) (us := fun y => [(n, Is K y)]) (R := fun (_ : Int) (y : Str) => OneL y) hwi.loose (by rw [rngI_length, sizeLine_eq]; omega) (fun D y _ => yg_name) (fun y _ i hi => by simpa using hi) (fun D y _ => y_chr hW (h0 y) (h2 y))).imp fun ys p => ?_))) fun ys h => ?_) fun z h => ?_
  · obtain ⟨e, f⟩ := pd_all (C := OneL) (fun _ _ h => h) p
    rw [rngI_length] at e
    exact ⟨f, by omega, by omega⟩
  · rw [oneL_sum h.1, show ("" : Str).length = 0 from rfl]
    omega
  · obtain ⟨ys, ⟨h1, h2, h3⟩, rfl⟩ := h
    exact join_ok h1 h2 h3
def NLnames : List Str := ["_law_well_here", "_law_many", "_law_letters", "_law_spare", "_law_stem", "_law_found", "_law_k", "_law_way", "_law_spot", "_law_size", "_law_word", "_law_fresh", "_law_turn", "_law_name"]
theorem scLnames : FnScope NLnames ["_law_well_here", "_law_many"] (defScope s_Lnames) := ⟨rfl, rfl, rfl, by decide +kernel, rfl, by decide +kernel, by decide +kernel⟩
abbrev spLnames (K : PySem.W.Frag) : Sp := sp2 (fun W (wl : Addr) (m : Int) => W = Ww wl ∧ 0 ≤ m ∧ m ≤ 24) (fun wl : Addr => Vl (.ref wl)) (fun m : Int => Is K m) fun _ m => Ex K fun ns : List Str => NsOk m.toNat ns
theorem ok_Lnames (M : Md K mg) (cLdraw : Cal P w K mg base 1 "_law_draw" ["_law_well_here", "_law_many"] (spdraw K)) : Cal P w K mg base 2 "_law_names" ["_law_well_here", "_law_many"] (spLnames K) := by
  obtain ⟨fd, F⟩ := M.d_Lnames
  refine cal_mk F M.o_law_names scLnames (fun _ _ _ _ _ _ us hl => match us, hl with | [_, _], _ => rfl) (fun _ => rfl) rfl fun cdv A outer s W A' H i Q E hr1 hp ok hQ => ?_
  obtain ⟨wl, m⟩ := i
  obtain ⟨hW, h1, h2⟩ := hp
  have hW : W = Ww wl := hW
  have h1 : 0 ≤ m := h1
  have h2 : m ≤ 24 := h2
  subst hW
  have hu := hr1.units
  have nd := scLnames.nd
  refine ⟨_,     (pss_cons (ps_set (i := 2) nd rfl (Or.inr rfl) pe_str)
    (pss_cons (ps_setLc (i := 3) rfl nd rfl rfl (sw_true rfl rfl rfl (by decide +kernel)) (pi_range1 (by rfl) M.mrange (pa_cons pe_int pa_nil)) (blkOk_by (N := NLnames) (sc := defScope s_Lnames) (own := [("_law_k", 6)]) (by decide +kernel)) (fun _ _ _ _ _ => (pg_name (i := 6) nd rfl (Or.inl rfl))) (fun _ _ _ _ _ => pts_nil) (fun _ _ _ _ _ => (pe_op op_add_str (pe_ix ix_str (pv 2) (pe_op op_fdiv (pv 6) pe_int) (fun _ _ => rfl)) (pe_ix ix_str (pv 2) (pe_op op_mod (pe_callTy call_int1 (by rfl) M.mint (by decide +kernel) (pa_cons (pv 6) pa_nil)) pe_int) (fun _ _ => rfl)))))
    (pss_cons (ps_set (i := 4) nd rfl (Or.inl rfl) (k_join K pe_str (pe_lc rfl nd (pi_range1 (by rfl) M.mrange (pa_cons (pe_op op_add pe_int (pe_cal cLdraw hr1 (by rfl) (pa_cons (pv 0) (pa_cons pe_int pa_nil)))) pa_nil)) (blkOk_by (N := NLnames) (sc := defScope s_Lnames) (own := [("_law_k", 6)]) (by decide +kernel)) (fun _ _ _ _ _ => (pg_name (i := 6) nd rfl (Or.inl rfl))) (fun _ _ _ _ _ => pts_nil) (fun _ _ _ _ _ => (pe_ix ix_str (pv 2) (pe_cal cLdraw hr1 (by rfl) (pa_cons (pv 0) (pa_cons pe_int pa_nil))) (fun _ _ => rfl))))))
    (pss_cons (ps_set (i := 5) nd rfl (Or.inr rfl) (pe_lst pa_nil))
    (pss_cons (ps_for PassesOwn.never rfl (pi_range1 (by rfl) M.mrange (pa_cons (pv 1) pa_nil)) (pg_name (i := 6) nd rfl (Or.inl rfl))
      (pss_cons (ps_par3 (i := 7) (j := 8) (l := 9) (by rfl) nd rfl rfl rfl (by decide) (by decide) (by decide) rfl rfl rfl (pa_cons (pe_cal cLdraw hr1 (by rfl) (pa_cons (pv 0) (pa_cons pe_int pa_nil))) (pa_cons (pe_cal cLdraw hr1 (by rfl) (pa_cons (pv 0) (pa_cons (pe_callB call_len_str (by rfl) M.mlen PySem.boot_len (pa_cons (pv 4) pa_nil)) pa_nil))) (pa_cons (pe_op op_add pe_int (pe_cal cLdraw hr1 (by rfl) (pa_cons (pv 0) (pa_cons pe_int pa_nil)))) pa_nil))) (by rfl))
      (pss_cons (ps_if (pt_cmpR op_lt (pv 7) pe_int (nomark _))
        (pss_cons (ps_set (i := 10) nd rfl (Or.inl rfl) (pe_op op_add_str (pe_op op_add_str (pe_slice sl_str (pv 4) po_none (po_some (pv 8))) (pe_ix ix_str (pv 2) (pe_cal cLdraw hr1 (by rfl) (pa_cons (pv 0) (pa_cons pe_int pa_nil))) (fun _ _ => rfl))) (pe_slice sl_str (pv 4) (po_some (pe_op op_add (pv 8) pe_int)) po_none)))
        pss_nil)
        (pss_cons (ps_set (i := 10) nd rfl (Or.inl rfl) (k_join K pe_str (pe_lc rfl nd (pi_range1 (by rfl) M.mrange (pa_cons (pe_ifExp (pt_cmpR (k_eq K Int hu) (pv 7) pe_int (nomark _)) pe_int (pv 9)) pa_nil)) (blkOk_by (N := NLnames) (sc := defScope s_Lnames) (own := [("_law_turn", 12)]) (by decide +kernel)) (fun _ _ _ _ _ => (pg_name (i := 12) nd rfl (Or.inl rfl))) (fun _ _ _ _ _ => pts_nil) (fun _ _ _ _ _ => (pe_ix ix_str (pv 2) (pe_cal cLdraw hr1 (by rfl) (pa_cons (pv 0) (pa_cons pe_int pa_nil))) (fun _ _ => rfl))))))
        pss_nil))
      (pss_cons (ps_setLc (i := 11) rfl nd rfl rfl (sw_true rfl rfl rfl (by decide +kernel)) (k_list K (pv 3)) (blkOk_by (N := NLnames) (sc := defScope s_Lnames) (own := [("_law_name", 13)]) (by decide +kernel)) (fun _ _ _ _ _ => (pg_name (i := 13) nd rfl (Or.inl rfl))) (fun _ _ _ _ _ => (pts_one (pt_cmpR (k_notIn K Str hu) (pv 13) (pv 5) rfl))) (fun _ _ _ _ _ => (pv 13)))
      (pss_cons (ps_expr (k_bm K PySem.F.plainAttrs_list PySem.F.slot_list_append PySem.F.type_list_append mt_append (pv 5) (pa_cons (pe_ifExp (pt_cmpR (k_notIn K Str hu) (pv 10) (pv 5) rfl) (pv 10) (pe_ix (k_ixL K) (pv 11) pe_int (fun _ _ => rfl))) pa_nil)))
      pss_nil)))))
    (pss_cons (ps_ret (pv 5))
    pss_nil)))))), ?_⟩
  dsimp only [cxOf, Cx.nox, Cx.wish]
  show YS ⟨Ww wl, A', H, []⟩ [some (Vl (.ref wl)), some (Is K m), none, none, none, none, none, none, none, none, none, none, none, none] [] _ _
  have lz : lets.length ≤ sizeLine := by rw [len_tl, show (tl lets).length = 26 from lets_len, sizeLine_eq]; decide
  refine ys_setD (t := Is K lets) y_str ?_
  refine ys_setD (t := Is K spares) (YF.dat (yf_lc1 (vs := [6]) (xs := rngI 0 60) (us := fun y => [(6, Is K y)]) (f := spAt) (yi_range1 (j := 60) (yal_cons (Y.loose y_int) yal_nil) (by decide) (by decide)).loose (by rw [rngI_length, sizeLine_eq]; decide) (fun D y _ => yg_name) (fun y _ i hi => by simpa using hi) (fun D y hy => ?_))) ?_
  · obtain ⟨k, hk⟩ := List.mem_iff_getElem?.mp hy
    obtain ⟨k1, k2⟩ := rngI_at hk
    have at_ : ∀ i : Int, 0 ≤ i → i < 26 → atI lets.cps.toList i = some (lets.cps.toList.getD i.toNat 0) := fun i a b => by
      have hn : i.toNat < lets.cps.toList.length := by rw [lets_len]; omega
      have e := atI_nat (xs := lets.cps.toList) (j := i.toNat) (List.getElem?_eq_getElem hn)
      rw [show ((i.toNat : Nat) : Int) = i by omega] at e
      rw [e, List.getD_eq_getElem?_getD, List.getElem?_eq_getElem hn]
      rfl
    refine y_catS (Y.loose (y_ixS (Y.loose (y_var rfl)) (Y.loose (y_opC (f := fun i j => i / j) (Y.loose (y_var rfl)) (Y.loose y_int) ⟨by decide, by decide⟩)) lz (at_ _ (by omega) (by omega)))) (Y.loose (y_ixS (Y.loose (y_var rfl)) (Y.loose (y_opC (f := fun i j => i % j) (Y.loose (y_intI (Y.loose (y_var rfl)))) (Y.loose y_int) (by decide))) lz (at_ _ (by omega) (by omega)))) ?_
    rw [sizeLine_eq]
    exact Nat.le_of_ble_eq_true rfl
  refine ys_setE (A := NmOk) (y_word rfl (fun _ => rfl) (fun _ => rfl) (yi_range1E (P := fun _ => True) (yal_cons (Y.loose (Y.exm (y_opIE (f := fun i j => i + j) (Y.loose (y_int.ex (A := fun z => z = 1) rfl)) (Y.loose (y_draw rfl (ya_cons (y_var rfl) (ya_cons y_int ya_nil)) (by decide) (by decide)))) fun z hz => ?_)) yal_nil) fun j hj => by omega)) ?_
  · obtain ⟨i, j, e1, e2, e3⟩ := hz
    omega
  rintro stem hstem
  have sz : stem.length ≤ sizeLine := by have := hstem.2.1; rw [sizeLine_eq]; omega
  refine ys_set (O := oNew K (· = ([] : List Str))) (YF.o (yf_lst yi_nil (Nat.zero_le _))) ?_
  rintro _ _ ⟨p, _, rfl, rfl, rfl⟩
  refine ys_forB K (ι := List Str) (xs := rngI 0 m.toNat) (us := fun _ x => [(6, Is K x)]) (fun k d => NsOk k d) (fun _ => [some (Vl (.ref wl)), some (Is K m), some (Is K lets), some (Is K spares), some (Is K stem), some (Vl (.ref p)), none, none, none, none, none, none, none, none]) (fun d => [(p, LoL K d)]) ?_ ?_ ?_ ?_ ?_
  · exact yi_range1 (yal_cons (Y.loose (y_var rfl)) yal_nil) (by omega) (by omega)
  · exact ⟨[], ⟨rfl, List.nodup_nil, fun x hx => absurd hx List.not_mem_nil⟩, Wk1.refl _, List.Sublist.refl _⟩
  · exact fun X d x _ => yg_name
  · rintro X k d x hx hd
    have hk : k < m.toNat := by
      have := (List.getElem?_eq_some_iff.mp hx).1
      rw [rngI_length] at this
      exact this
    have dl : d.length < 24 := by rw [hd.1]; omega
    have sl : 0 < (stem.length : Int) := by have := hstem.1; omega
    refine ys_par3 (O1 := oEx K fun r : Int => 0 ≤ r ∧ r < 4) (O2 := oEx K fun r : Int => 0 ≤ r ∧ r < (stem.length : Int)) (O3 := oEx K fun r : Int => 1 ≤ r ∧ r ≤ 8) (Y.oe (y_draw rfl (ya_cons (y_var rfl) (ya_cons y_int ya_nil)) (by decide) (by decide))) ?_ ?_ ?_
    · rintro _ _ ⟨way, _, rfl, rfl⟩
      exact Y.oe (y_draw rfl (ya_cons (y_var rfl) (ya_cons (y_lenS (Y.loose (y_var rfl)) sz) ya_nil)) sl (by have := hstem.2.1; omega))
    · rintro _ _ _ _ ⟨way, _, rfl, rfl⟩ ⟨spot, _, rfl, rfl⟩
      refine Y.oe (Y.exm (y_opIE (f := fun i j => i + j) (Y.loose (y_int.ex (A := fun z => z = 1) rfl)) (Y.loose (y_draw rfl (ya_cons (y_var rfl) (ya_cons y_int ya_nil)) (by decide) (by decide)))) fun z hz => ?_)
      obtain ⟨i, j, e1, e2, e3⟩ := hz
      omega
    rintro _ _ _ _ _ _ ⟨way, hw, rfl, rfl⟩ ⟨spot, hs, rfl, rfl⟩ ⟨size, hz, rfl, rfl⟩
    refine ys_keyA (A := NmOk) (g' := fun v => [some (Vl (.ref wl)), some (Is K m), some (Is K lets), some (Is K spares), some (Is K stem), some (Vl (.ref p)), some (Is K x), some (Is K way), some (Is K spot), some (Is K size), some (Is K v), none, none, none]) (L' := [(p, LoL K d)]) ?_ fun key => ?_
    · rintro v hv
      refine ys_setD (t := Is K (spares.filter fun z => !inB z d)) (YF.dat (YF.to (yf_lc (vs := [13]) (xs := spares) (us := fun y => [(13, Is K y)]) (c := fun z => !inB z d) (f := id) (yi_list (y_var rfl)).loose (by rw [spares_len, sizeLine_eq]; decide) (fun D y _ => yg_name) (fun y _ i hi => by simpa using hi) (fun D y _ => yt_test (K := K) (Y.loose (y_notInT (Y.loose (y_var rfl)) (yq_loc (j := 0) rfl rfl).loose))) (fun D y _ _ => y_var rfl)) (List.map_id _))) ?_
      have fr : ∃ z, atI (spares.filter fun z => !inB z d) (0 : Int) = some z ∧ NmOk z ∧ z ∉ d := by
        cases e : spares.filter fun z => !inB z d with
        | nil =>
          exfalso
          have := sub_len spares_nodup (ys := d) fun z hz => by
            by_cases q : z ∈ d
            · exact q
            · have : z ∈ spares.filter fun z => !inB z d := List.mem_filter.mpr ⟨hz, by rw [inB_false.mpr q]; rfl⟩
              rw [e] at this
              cases this
          rw [spares_len] at this
          omega
        | cons z r =>
          have hm : z ∈ spares.filter fun z => !inB z d := by rw [e]; exact List.mem_cons_self
          obtain ⟨m1, m2⟩ := List.mem_filter.mp hm
          refine ⟨z, atI_nat (xs := z :: r) (j := 0) rfl, spares_ok z m1, inB_false.mp ?_⟩
          cases q : inB z d with
          | false => rfl
          | true => rw [q] at m2; cases m2
      obtain ⟨z, z1, z2, z3⟩ := fr
      refine ys_appendE (i := 5) (j := 0) (A := fun y => NmOk y ∧ y ∉ d) rfl rfl ?_ (by rw [sizeLine_eq]; omega) fun y hy => ?_
      · refine y_if (c := !inB v d) (yt_test (K := K) (Y.loose (y_notInT (Y.loose (y_var rfl)) (yq_loc (j := 0) rfl rfl).loose))) (fun h => ?_) fun h => ?_
        · refine (y_var rfl : Y _ _ _ _ (Is K v)).ex ⟨hv, inB_false.mp ?_⟩
          cases q : inB v d with
          | false => rfl
          | true => rw [q] at h; cases h
        · exact (y_ixL (Y.q (y_var rfl)) (Y.loose y_int) z1).ex ⟨z2, z3⟩
      · exact ys_next fun s H a => ⟨d ++ [y], hd.more hy.1 hy.2, a.weak (.keep (.keep (.keep (.keep (.keep (.keep (.drop (.drop (.drop (.drop (.drop (.drop (.keep (.keep .nil))))))))))))))⟩
    · refine ys_if (c := decide (way < 2)) (yt_test (K := K) (Y.loose (y_opB (f := fun i j => decide (i < j)) (Y.loose (y_var rfl)) (Y.loose y_int)))) (fun h => ?_) fun h => ?_
      · refine ys_setE (A := NmOk) ?_ fun v hv => ys_then (key v hv)
        have e : spot = ((spot.toNat : Nat) : Int) := by omega
        have e2 : spot + 1 = ((spot.toNat + 1 : Nat) : Int) := by omega
        have c1 : (cutS stem none (some spot)).length ≤ 8 := by
          rw [cutS_eq, len_tl]
          have : (cutL stem.cps.toList none (some spot)).length ≤ stem.cps.toList.length := by unfold cutL; rw [List.length_take, List.length_drop]; omega
          have h8 := hstem.2.1
          rw [len_tl] at h8
          show (cutL stem.cps.toList none (some spot)).length ≤ 8
          exact Nat.le_trans this h8
        have c2 : (cutS stem (some (spot + 1)) none).length ≤ 8 := by
          rw [cutS_eq, len_tl]
          have : (cutL stem.cps.toList (some (spot + 1)) none).length ≤ stem.cps.toList.length := by unfold cutL; rw [List.length_take, List.length_drop]; omega
          have h8 := hstem.2.1
          rw [len_tl] at h8
          show (cutL stem.cps.toList (some (spot + 1)) none).length ≤ 8
          exact Nat.le_trans this h8
        refine Y.exm (y_catSE (C := fun z => z = cutS stem (some (spot + 1)) none) (Y.loose (y_catSE (A := fun z => z = cutS stem none (some spot)) (Y.loose ((y_slS (Y.loose (y_var rfl)) yo_no (yo_some (Y.loose (y_var rfl))) sz).ex rfl)) (Y.loose (y_chr rfl rfl rfl)) fun a b ha hb => ?_)) (Y.loose ((y_slS (Y.loose (y_var rfl)) (yo_some (Y.loose (y_opI (f := fun i j => i + j) (Y.loose (y_var rfl)) (Y.loose y_int)))) yo_no sz).ex rfl)) fun a b ha hb => ?_) fun z hz => ?_
        · obtain ⟨c, _, rfl⟩ := hb
          rw [ha, sizeLine_eq]
          show _ + 1 ≤ _
          omega
        · obtain ⟨a1, b1, ha, ⟨c, _, rfl⟩, rfl⟩ := ha
          rw [hb, ha, sizeLine_eq, len_tl, tl_append, List.length_append, ← len_tl]
          show _ + 1 + _ ≤ _
          omega
        · obtain ⟨a, b, ⟨a1, b1, ha, hb1, rfl⟩, hb, rfl⟩ := hz
          rw [ha, hb, e2]
          rw [show cutS stem none (some spot) = cutS stem none (some ((spot.toNat : Nat) : Int)) by rw [← e]]
          exact swap_ok hstem (by omega) hb1
      · refine ys_setE (A := NmOk) (y_word rfl (fun _ => rfl) (fun _ => rfl) (yi_range1E (P := fun _ => True) (A := fun j => 1 ≤ j ∧ j ≤ 8) (yal_cons (Y.loose ?_) yal_nil) fun j hj => by omega)) fun v hv => ys_then (key v hv)
        refine y_if (c := decide (way = 2)) (yt_test (K := K) (Y.loose (y_eqT (Y.loose (y_var rfl)) (Y.loose y_int)))) (fun _ => ?_) fun _ => ?_
        · exact y_int.ex ⟨by decide, by decide⟩
        · exact (y_var rfl : Y _ _ _ _ (Is K size)).ex hz
  · rintro d hd
    rw [rngI_length] at hd
    refine ys_free (L1 := []) (L2 := []) (i := 5) rfl ?_
    exact ys_ret (t := Ex K fun ns : List Str => NsOk m.toNat ns) ((y_var rfl : Y _ _ _ _ (Is K d)).ex hd) hQ
end
end K29
set_option Elab.async false
set_option linter.all false
set_option maxRecDepth 100000
set_option maxHeartbeats 4000000
/-! The law's defs: a web drawn copy by copy. -/
namespace G
open PySem PySem.Spec PyProof.Rows L2 PySem.W
section
variable {K : PySem.W.Frag} {B : Bs} {g : Slots} {L : Ls} {te : TE} {D : Ends} {rest ts : TS} {α : Type} {_ : DecidableEq α} {_ : Datum α}
theorem yf_oneE {A : α → Prop} (h : Y B g L te (Ex K A)) : YF K B g L (tLst (tCons te tNil)) (fun xs => ∃ x, A x ∧ xs = [x]) := fun s H a Q k => h s H a _ fun v H1 e j p => by
  obtain ⟨x, hx, r⟩ := p
  exact ⟨by show 1 ≤ sizeLine; decide, fun q hq => yf_mk (R := fun xs => ∃ x, A x ∧ xs = [x]) a e j (.one r) ⟨x, hx, rfl⟩ k q hq⟩
theorem ys_keyB {V : Type} {A : V → Prop} {g' : V → Slots} {L' : V → Ls} (h : ∀ v, A v → YS B (g' v) (L' v) rest D) (k : (∀ v, A v → YS B (g' v) (L' v) rest D) → YS B g L (tSeq ts rest) D) : YS B g L (tSeq ts rest) D := k h
end
end G
namespace K29
open PySem PySem.Spec PyProof.Rows L2 G PySem.W TL
def cnt (xs : List Str) (z : Str) : Nat := xs.countP fun y => decide (y = z)
theorem cnt_append (xs ys : List Str) (z : Str) : cnt (xs ++ ys) z = cnt xs z + cnt ys z := List.countP_append
theorem cnt_nodup : ∀ {xs : List Str} (z : Str), xs.Nodup → cnt xs z ≤ 1
  | [], z, _ => Nat.zero_le _
  | x :: xs, z, nd => by
    have nd' := List.nodup_cons.mp nd
    have ih := cnt_nodup (xs := xs) z nd'.2
    unfold cnt at ih ⊢
    rw [List.countP_cons]
    by_cases e : x = z
    · subst e
      rw [List.countP_eq_zero.mpr fun y hy => by
        intro c
        exact nd'.1 (by rw [← of_decide_eq_true c]; exact hy)]
      simp
    · rw [decide_eq_false e]
      simpa using ih
theorem cnt_pos {xs : List Str} {z : Str} (h : z ∈ xs) : 0 < cnt xs z := List.countP_pos_iff.mpr ⟨z, h, decide_eq_true rfl⟩
theorem cnt_zero {xs : List Str} {z : Str} (h : z ∉ xs) : cnt xs z = 0 := List.countP_eq_zero.mpr fun y hy c => h (by rw [← of_decide_eq_true c]; exact hy)
theorem ones_le : ∀ {ns : List Str} (y : Str), ns.Nodup → (ns.map fun z => if y = z then 1 else 0).sum ≤ 1
  | [], y, _ => Nat.zero_le _
  | n :: ns, y, nd => by
    have nd' := List.nodup_cons.mp nd
    rw [List.map_cons, List.sum_cons]
    by_cases e : y = n
    · subst e
      have z : (ns.map fun z => if y = z then 1 else 0).sum = 0 := by
        have : ∀ ms : List Str, (∀ m, m ∈ ms → y ≠ m) → (ms.map fun z => if y = z then 1 else 0).sum = 0 := by
          intro ms
          induction ms with
          | nil => intro _; rfl
          | cons m ms ih =>
            intro h
            rw [List.map_cons, List.sum_cons, if_neg (h m List.mem_cons_self), ih fun x hx => h x (List.mem_cons_of_mem _ hx)]
        exact this ns fun m hm e => nd'.1 (by rw [e]; exact hm)
      rw [if_pos rfl, z]
      exact Nat.le_refl _
    · rw [if_neg e]
      have := ones_le (ns := ns) y nd'.2
      omega
theorem sum_add {α : Type} (f h : α → Nat) : ∀ ns : List α, (ns.map fun z => f z + h z).sum = (ns.map f).sum + (ns.map h).sum
  | [] => rfl
  | n :: ns => by
    rw [List.map_cons, List.map_cons, List.map_cons, List.sum_cons, List.sum_cons, List.sum_cons, sum_add f h ns]
    omega
theorem cnt_sum {ns : List Str} (nd : ns.Nodup) : ∀ xs : List Str, (ns.map fun z => cnt xs z).sum ≤ xs.length
  | [] => by
    have : ∀ ms : List Str, (ms.map fun z => cnt [] z).sum = 0 := by
      intro ms
      induction ms with
      | nil => rfl
      | cons m ms ih => rw [List.map_cons, List.sum_cons, ih]; rfl
    rw [this]
    exact Nat.zero_le _
  | x :: xs => by
    have ih := cnt_sum nd xs
    have o := ones_le (ns := ns) x nd
    have e : (ns.map fun z => cnt (x :: xs) z) = ns.map fun z => (if x = z then 1 else 0) + cnt xs z := by
      refine List.map_congr_left fun z _ => ?_
      unfold cnt
      rw [List.countP_cons]
      by_cases e : x = z
      · rw [if_pos e, decide_eq_true e]; simp; omega
      · rw [if_neg e, decide_eq_false e]; simp
    have ih' : (ns.map (cnt xs)).sum ≤ xs.length := ih
    rw [e, sum_add, List.length_cons]
    show _ + (ns.map (cnt xs)).sum ≤ _
    omega
theorem RowsOk.one {x : Str} (h : NmOk x) : RowsOk [(x, [])] where
  nm := fun r hr => by rw [List.mem_singleton.mp hr]; exact h
  nd := by simp
  hd := fun r hr => by cases hr; rfl
  src := fun i r hr hi => by
    have : i < 1 := (List.getElem?_eq_some_iff.mp hr).1
    omega
  use := fun x => Nat.zero_le _
  len := by show 1 ≤ 40; decide
theorem used_append (d e : List NRow) : usedOf (d ++ e) = usedOf d ++ usedOf e := List.flatMap_append
/-- one more copy -/
theorem RowsOk.more {d : List NRow} {x : Str} {sm : List Str} (ro : RowsOk d) (hne : d ≠ []) (hx : NmOk x) (hn : x ∉ d.map (·.1)) (h1 : 1 ≤ sm.length) (h2 : sm.length ≤ 2) (h3 : sm.Nodup) (h4 : ∀ z, z ∈ sm → z ∈ d.map (·.1)) (h5 : ∀ z, z ∈ sm → cnt (usedOf d) z < 2) (h6 : d.length < 40) : RowsOk (d ++ [(x, sm)]) where
  nm := fun r hr => (List.mem_append.mp hr).elim (ro.nm r) fun e => by rw [List.mem_singleton.mp e]; exact hx
  nd := by
    rw [List.map_append]
    refine List.nodup_append.mpr ⟨ro.nd, by simp, fun a ha b hb e => ?_⟩
    have hb : b ∈ [x] := hb
    rw [List.mem_singleton.mp hb] at e
    rw [e] at ha
    exact hn ha
  hd := fun r hr => by
    rw [List.getElem?_append_left (List.length_pos_iff.mpr hne)] at hr
    exact ro.hd r hr
  src := fun i r hr hi => by
    by_cases c : i < d.length
    · rw [List.getElem?_append_left c] at hr
      obtain ⟨a, b, e, f⟩ := ro.src i r hr hi
      refine ⟨a, b, e, fun s hs => ?_⟩
      rw [List.take_append_of_le_length (Nat.le_of_lt c)]
      exact f s hs
    · rw [List.getElem?_append_right (Nat.le_of_not_lt c)] at hr
      have z : i - d.length < 1 := (List.getElem?_eq_some_iff.mp hr).1
      have z : i = d.length := by omega
      subst z
      rw [Nat.sub_self] at hr
      cases hr
      refine ⟨h1, h2, h3, fun s hs => ?_⟩
      rw [List.take_append_of_le_length (Nat.le_refl _), List.take_length]
      exact h4 s hs
  use := fun z => by
    rw [used_append]
    show cnt (usedOf d ++ usedOf [(x, sm)]) z ≤ 2
    rw [cnt_append]
    have e : usedOf [(x, sm)] = sm := by show sm ++ [] = sm; exact List.append_nil _
    rw [e]
    by_cases m : z ∈ sm
    · have a := h5 z m
      have b := cnt_nodup z h3
      omega
    · rw [cnt_zero m]
      exact ro.use z
  len := by
    rw [List.length_append]
    exact h6
theorem used_le {d : List NRow} (ro : RowsOk d) (hne : d ≠ []) : (usedOf d).length ≤ 2 * (d.length - 1) := by
  cases d with
  | nil => exact absurd rfl hne
  | cons r t =>
    have h0 := ro.hd r rfl
    have e : usedOf (r :: t) = r.2 ++ usedOf t := rfl
    have a := sum_two t fun q hq => ro.two q (List.mem_cons_of_mem _ hq)
    have b : (usedOf t).length = (t.map fun r => r.2.length).sum := by rw [used_len, lines_len]
    rw [e, h0, List.nil_append, b, List.length_cons]
    omega
/-- there is room -/
theorem room_ne {d : List NRow} (ro : RowsOk d) (hne : d ≠ []) : ∃ z, z ∈ d.map (·.1) ∧ cnt (usedOf d) z < 2 := by
  by_cases h : ∃ z, z ∈ d.map (·.1) ∧ cnt (usedOf d) z < 2
  · exact h
  · exfalso
    have full : ∀ z, z ∈ d.map (·.1) → 2 ≤ cnt (usedOf d) z := fun z hz => by
      by_cases c : cnt (usedOf d) z < 2
      · exact absurd ⟨z, hz, c⟩ h
      · omega
    have a := cnt_sum ro.nd (usedOf d)
    have b := used_le ro hne
    have c : ∀ ms : List Str, (∀ z, z ∈ ms → 2 ≤ cnt (usedOf d) z) → 2 * ms.length ≤ (ms.map fun z => cnt (usedOf d) z).sum := by
      intro ms
      induction ms with
      | nil => intro _; exact Nat.le_refl _
      | cons m ms ih =>
        intro h
        have x := ih fun z hz => h z (List.mem_cons_of_mem _ hz)
        have y := h m List.mem_cons_self
        rw [List.map_cons, List.sum_cons, List.length_cons]
        omega
    have e := c _ full
    have l : 0 < d.length := List.length_pos_iff.mpr hne
    rw [List.length_map] at e
    omega
/-- rows made of the first names -/
structure Part (ns : List Str) (d : List NRow) (k : Nat) : Prop where
  ro : RowsOk d
  len : d.length = k
  hd : d.map (·.1) = ns.take k
theorem Part.more {ns : List Str} {n k : Nat} {d : List NRow} {sm : List Str} (hn : NsOk n ns) (h24 : n ≤ 24) (p : Part ns d k) (hk : 0 < k) (hkn : k < n) {x : Str} (hx : ns[k]? = some x) (h1 : 1 ≤ sm.length) (h2 : sm.length ≤ 2) (h3 : sm.Nodup) (h4 : ∀ z, z ∈ sm → z ∈ d.map (·.1)) (h5 : ∀ z, z ∈ sm → cnt (usedOf d) z < 2) : Part ns (d ++ [(x, sm)]) (k + 1) := by
  have hl : k < ns.length := by rw [hn.1]; exact hkn
  have ex : ns[k] = x := (List.getElem?_eq_some_iff.mp hx).2
  have hne : d ≠ [] := fun e => by have := p.len; rw [e] at this; simp at this; omega
  refine ⟨p.ro.more hne (hn.2.2 x (List.mem_of_getElem? hx)) ?_ h1 h2 h3 h4 h5 (by have := p.len; omega), by rw [List.length_append, p.len]; rfl, ?_⟩
  · rw [p.hd]
    intro m
    obtain ⟨j, hj, e⟩ := List.mem_iff_getElem.mp m
    rw [List.length_take] at hj
    rw [List.getElem_take] at e
    exact List.pairwise_iff_getElem.mp hn.2.1 j k (by omega) hl (by omega) (e.trans ex.symm)
  · rw [List.map_append, p.hd, List.take_succ_eq_append_getElem hl, ex]
    rfl
section
variable {P : Program} {w : World} {K : PySem.W.Frag} {mg : Str → Option Value} {base : Heap}
def NLfree : List Str := ["_law_well_here", "_law_names_here", "_law_most", "_law_rows", "_law_spent", "_law_pairs", "_law_k", "_law_room", "_law_some", "_law_rest", "_law_name"]
theorem scLfree : FnScope NLfree ["_law_well_here", "_law_names_here", "_law_most"] (defScope s_Lfree) := ⟨rfl, rfl, rfl, by decide +kernel, rfl, by decide +kernel, by decide +kernel⟩
def RowsD (n : Nat) (xs : List (Str × Tup Str)) : Prop := ∃ rows : List NRow, xs = rows.map dRow ∧ RowsOk rows ∧ 2 ≤ rows.length ∧ rows.length ≤ n
abbrev spLfree (K : PySem.W.Frag) : Sp := sp3 (fun W (wl : Addr) (ns : List Str) (_ : Int) => W = Ww wl ∧ 2 ≤ ns.length ∧ ns.length ≤ 24 ∧ NsOk ns.length ns) (fun wl : Addr => Vl (.ref wl)) (fun ns : List Str => Is K ns) (fun m : Int => Is K m) fun _ ns _ => Ex K (RowsD ns.length)
theorem ok_Lfree (M : Md K mg) (cLdraw : Cal P w K mg base 1 "_law_draw" ["_law_well_here", "_law_many"] (spdraw K)) : Cal P w K mg base 2 "_law_free" ["_law_well_here", "_law_names_here", "_law_most"] (spLfree K) := by
  obtain ⟨fd, F⟩ := M.d_Lfree
  refine cal_mk F M.o_law_free scLfree (fun _ _ _ _ _ _ us hl => match us, hl with | [_, _, _], _ => rfl) (fun _ => rfl) rfl fun cdv A outer s W A' H i Q E hr1 hp ok hQ => ?_
  obtain ⟨wl, ns, most⟩ := i
  obtain ⟨hW, h1, h2, h3⟩ := hp
  have hW : W = Ww wl := hW
  have h1 : 2 ≤ ns.length := h1
  have h2 : ns.length ≤ 24 := h2
  have h3 : NsOk ns.length ns := h3
  subst hW
  have hu := hr1.units
  have nd := scLfree.nd
  refine ⟨_,     (pss_cons (ps_asg (pe_tup (pa_cons (pe_lst (pa_cons (pe_tup (pa_cons (pe_ix (k_ixL K) (pv 1) pe_int (fun _ _ => rfl)) (pa_cons (pe_tup pa_nil) pa_nil))) pa_nil)) (pa_cons (pe_lst pa_nil) (pa_cons pe_int pa_nil)))) (k_pg K (n := 3) (pgs_cons (pg_name (i := 3) nd rfl (Or.inl rfl)) (pgs_cons (pg_name (i := 4) nd rfl (Or.inr rfl)) (pgs_cons (pg_name (i := 5) nd rfl (Or.inl rfl)) pgs_nil)))))
    (pss_cons (ps_for PassesOwn.never rfl (pi_range2 (by rfl) M.mrange (pa_cons pe_int (pa_cons (pe_callB (k_len K) (by rfl) M.mlen PySem.boot_len (pa_cons (pv 1) pa_nil)) pa_nil))) (pg_name (i := 6) nd rfl (Or.inl rfl))
      (pss_cons (ps_setLc (i := 7) rfl nd rfl rfl (sw_true rfl rfl rfl (by decide +kernel)) (k_list K (pe_slice (k_slL K) (pv 1) po_none (po_some (pv 6)))) (blkOk_by (N := NLfree) (sc := defScope s_Lfree) (own := [("_law_name", 10)]) (by decide +kernel)) (fun _ _ _ _ _ => (pg_name (i := 10) nd rfl (Or.inl rfl))) (fun _ _ _ _ _ => (pts_one (pt_cmpR op_lt (k_bm K PySem.F.plainAttrs_list PySem.F.slot_list_count PySem.F.type_list_count (k_count K Str hu) (pv 4) (pa_cons (pv 10) pa_nil)) pe_int (nomark _)))) (fun _ _ _ _ _ => (pv 10)))
      (pss_cons (ps_set (i := 8) nd rfl (Or.inr rfl) (pe_lst (pa_cons (pe_ix (k_ixL K) (pv 7) (pe_cal cLdraw hr1 (by rfl) (pa_cons (pv 0) (pa_cons (pe_callB (k_len K) (by rfl) M.mlen PySem.boot_len (pa_cons (pv 7) pa_nil)) pa_nil))) (fun _ _ => rfl)) pa_nil)))
      (pss_cons (ps_setLc (i := 9) rfl nd rfl rfl (sw_true rfl rfl rfl (by decide +kernel)) (k_list K (pv 7)) (blkOk_by (N := NLfree) (sc := defScope s_Lfree) (own := [("_law_name", 10)]) (by decide +kernel)) (fun _ _ _ _ _ => (pg_name (i := 10) nd rfl (Or.inl rfl))) (fun _ _ _ _ _ => (pts_one (pt_cmpR (k_notIn K Str hu) (pv 10) (pv 8) rfl))) (fun _ _ _ _ _ => (pv 10)))
      (pss_cons (ps_if (PW.pt (pw_and (pt_cmpR op_gt (pe_cal cLdraw hr1 (by rfl) (pa_cons (pv 0) (pa_cons pe_int pa_nil))) pe_int (nomark _)) (pw_and (pt_cmpR (k_ne K (List Str) hu) (pv 9) (pe_lst pa_nil) (nomark _)) (pw_and1 (pt_cmpR op_lt (pv 5) (pv 2) (nomark _))))))
        (pss_cons (ps_expr (k_bm K PySem.F.plainAttrs_list PySem.F.slot_list_append PySem.F.type_list_append mt_append (pv 8) (pa_cons (pe_ix (k_ixL K) (pv 9) (pe_cal cLdraw hr1 (by rfl) (pa_cons (pv 0) (pa_cons (pe_callB (k_len K) (by rfl) M.mlen PySem.boot_len (pa_cons (pv 9) pa_nil)) pa_nil))) (fun _ _ => rfl)) pa_nil)))
        (pss_cons (ps_set (i := 5) nd rfl (Or.inl rfl) (pe_op op_add (pv 5) pe_int))
        pss_nil))
        pss_nil)
      (pss_cons (ps_expr (k_bm K PySem.F.plainAttrs_list PySem.F.slot_list_extend PySem.F.type_list_extend (k_extend K) (pv 4) (pa_cons (pv 8) pa_nil)))
      (pss_cons (ps_expr (k_bm K PySem.F.plainAttrs_list PySem.F.slot_list_append PySem.F.type_list_append mt_append (pv 3) (pa_cons (pe_tup (pa_cons (pe_ix (k_ixL K) (pv 1) (pv 6) (fun _ _ => rfl)) (pa_cons (pe_callTy (k_tupOf K) (by rfl) M.mtuple (by decide +kernel) (pa_cons (pv 8) pa_nil)) pa_nil))) pa_nil)))
      pss_nil)))))))
    (pss_cons (ps_ret (pv 3))
    pss_nil))), ?_⟩
  dsimp only [cxOf, Cx.nox, Cx.wish]
  show YS ⟨Ww wl, A', H, []⟩ [some (Vl (.ref wl)), some (Is K ns), some (Is K most), none, none, none, none, none, none, none, none] [] _ _
  obtain ⟨n0, hn0⟩ : ∃ n0, ns[0]? = some n0 := ⟨ns[0], List.getElem?_eq_getElem (by omega)⟩
  have at0 : atI ns (0 : Int) = some n0 := atI_nat (xs := ns) (j := 0) hn0
  refine ys_tup3 (O1 := oNew K (· = [dRow (n0, [])])) (O2 := oNew K (· = ([] : List Str))) (O3 := oDat (Is K (0 : Int))) (YF.o (yf_lst (yi_cons (y_pair (y_ixL (Y.q (y_var rfl)) (Y.loose y_int) at0) (y_tupU yi_nil (Nat.zero_le _))) yi_nil) (by show 1 ≤ sizeLine; decide))) (fun u L1 _ => YF.o (yf_lst yi_nil (Nat.zero_le _))) (fun t L1 u L2 _ _ => Y.o y_int) ?_
  rintro _ _ _ _ _ _ ⟨p, _, rfl, rfl, rfl⟩ ⟨q, _, rfl, rfl, rfl⟩ ⟨rfl, rfl⟩
  refine ys_forB K (ι := List NRow × Int) (xs := rngI 1 ((ns.length : Int) - 1).toNat) (us := fun _ x => [(6, Is K x)]) (fun k d => Part ns d.1 (k + 1)) (fun d => [some (Vl (.ref wl)), some (Is K ns), some (Is K most), some (Vl (.ref p)), some (Vl (.ref q)), some (Is K d.2), none, none, none, none, none]) (fun d => [(q, LoL K (usedOf d.1)), (p, LoL K (d.1.map dRow))]) ?_ ?_ ?_ ?_ ?_
  · exact yi_range2 (i := 1) (j := (ns.length : Int)) (yal_cons (Y.loose y_int) (yal_cons (Y.loose (y_lenL (Y.loose (y_var rfl)))) yal_nil)) ⟨by decide, by decide, by omega, by omega⟩
  · refine ⟨([(n0, [])], 0), ⟨RowsOk.one (h3.2.2 n0 (List.mem_of_getElem? hn0)), rfl, ?_⟩, Wk1.refl _, List.Sublist.refl _⟩
    show [n0] = ns.take (0 + 1)
    rw [List.take_succ_eq_append_getElem (by omega), List.take_zero, (List.getElem?_eq_some_iff.mp hn0).2]
    rfl
  · exact fun X d x _ => yg_name
  · rintro X k ⟨d, pr⟩ x hx hd
    have hd : Part ns d (k + 1) := hd
    obtain ⟨k1, k2⟩ := rngI_at hx
    have ek : x = ((k + 1 : Nat) : Int) := by omega
    have hkn : k + 1 < ns.length := by omega
    subst ek
    have ro := hd.ro
    have dl := hd.len
    have hne : d ≠ [] := fun e => by rw [e] at dl; cases dl
    have ul := used_le ro hne
    obtain ⟨nk, hnk⟩ : ∃ y, ns[k + 1]? = some y := ⟨ns[k + 1], List.getElem?_eq_getElem hkn⟩
    have atk : atI ns ((k + 1 : Nat) : Int) = some nk := atI_nat (xs := ns) (j := k + 1) hnk
    have ec : cutL ns none (some ((k + 1 : Nat) : Int)) = d.map (·.1) := by rw [cutL_take, hd.hd]
    let room := (d.map (·.1)).filter fun z => decide ((cnt (usedOf d) z : Int) < 2)
    have room_mem : ∀ {z}, z ∈ room → z ∈ d.map (·.1) ∧ cnt (usedOf d) z < 2 := fun hz => by
      obtain ⟨a, b⟩ := List.mem_filter.mp hz
      have b := of_decide_eq_true b
      exact ⟨a, by omega⟩
    have room_pos : 0 < room.length := by
      obtain ⟨z, z1, z2⟩ := room_ne ro hne
      exact List.length_pos_of_mem (List.mem_filter.mpr ⟨z1, decide_eq_true (by omega)⟩)
    have room_len : room.length ≤ 24 := by
      have := List.length_filter_le (fun z => decide ((cnt (usedOf d) z : Int) < 2)) (d.map (·.1))
      rw [List.length_map] at this
      show (List.filter _ _).length ≤ _
      omega
    refine ys_setD (t := Is K room) (YF.dat (YF.to (yf_lc (vs := [10]) (xs := d.map (·.1)) (us := fun y => [(10, Is K y)]) (c := fun z => decide ((cnt (usedOf d) z : Int) < 2)) (f := id) (yi_list (YF.dat (YF.to (yf_slL (Y.q (y_var rfl)) yo_no (yo_some (K := K) (Y.loose (y_var rfl)))) ec))).loose (by rw [List.length_map, sizeLine_eq]; omega) (fun D y _ => yg_name) (fun y _ i hi => by simpa using hi) (fun D y _ => ?_) (fun D y _ _ => y_var rfl)) (List.map_id _))) ?_
    · exact yt_test (K := K) (Y.loose (y_opB (f := fun i j => decide (i < j)) (Y.loose (y_count (yq_loc (j := 0) rfl rfl).loose (Y.loose (y_var rfl)))) (Y.loose y_int)))
    have pick : ∀ (l : List Str) (i : Int), (0 ≤ i ∧ i < (l.length : Int)) → ∃ z, atI l i = some z ∧ z ∈ l := fun l i h => by
      have hn : i.toNat < l.length := by omega
      have e := atI_nat (xs := l) (j := i.toNat) (List.getElem?_eq_getElem hn)
      rw [show ((i.toNat : Nat) : Int) = i by omega] at e
      exact ⟨_, e, List.getElem_mem hn⟩
    refine ys_set (O := oNew K fun xs => ∃ z, z ∈ room ∧ xs = [z]) (YF.o (yf_oneE (Y.exm (y_ixLE (Y.q (y_var rfl)) (Y.loose (y_draw rfl (ya_cons (y_var rfl) (ya_cons (y_lenL (Y.loose (y_var rfl))) ya_nil)) (by omega) (by omega))) fun i hi => (pick room i hi).imp fun z h => h.1) fun z ⟨i, hi, e⟩ => ?_))) ?_
    · obtain ⟨z', e', m⟩ := pick room i hi
      rw [e] at e'
      cases e'
      exact m
    rintro _ _ ⟨ps, _, ⟨z, hz, rfl⟩, rfl, rfl⟩
    let rest := room.filter fun y => !inB y [z]
    have rest_mem : ∀ {y}, y ∈ rest → y ∈ room ∧ y ≠ z := fun hy => by
      obtain ⟨a, b⟩ := List.mem_filter.mp hy
      refine ⟨a, fun e => ?_⟩
      rw [inB_true.mpr (by rw [e]; exact List.mem_cons_self)] at b
      cases b
    have rest_len : rest.length ≤ 24 := Nat.le_trans (List.length_filter_le _ _) room_len
    refine ys_setD (t := Is K rest) (YF.dat (YF.to (yf_lc (vs := [10]) (xs := room) (us := fun y => [(10, Is K y)]) (c := fun y => !inB y [z]) (f := id) (yi_list (y_var rfl)).loose (by rw [sizeLine_eq]; omega) (fun D y _ => yg_name) (fun y _ i hi => by simpa using hi) (fun D y _ => yt_test (K := K) (Y.loose (y_notInT (Y.loose (y_var rfl)) (yq_loc (j := 0) rfl rfl).loose))) (fun D y _ _ => y_var rfl)) (List.map_id _))) ?_
    refine ys_keyB (V := List Str × Int) (A := fun v => 1 ≤ v.1.length ∧ v.1.length ≤ 2 ∧ v.1.Nodup ∧ ∀ y, y ∈ v.1 → y ∈ room) (g' := fun v => [some (Vl (.ref wl)), some (Is K ns), some (Is K most), some (Vl (.ref p)), some (Vl (.ref q)), some (Is K v.2), some (Is K ((k + 1 : Nat) : Int)), some (Is K room), some (Vl (.ref ps)), some (Is K rest), none]) (L' := fun v => [(ps, LoL K v.1), (q, LoL K (usedOf d)), (p, LoL K (d.map dRow))]) ?_ fun key => ?_
    · rintro ⟨sm, pr'⟩ ⟨s1, s2, s3, s4⟩
      have s1 : 1 ≤ sm.length := s1
      have s2 : sm.length ≤ 2 := s2
      have s3 : sm.Nodup := s3
      have s4 : ∀ y, y ∈ sm → y ∈ room := s4
      refine ys_extend (i := 4) (j := 1) (xs := usedOf d) (ys := sm) rfl rfl (yq_loc (j := 0) rfl rfl) (by rw [sizeLine_eq]; omega) ?_
      refine ys_append (i := 3) (j := 2) (xs := d.map dRow) (x := dRow (nk, sm)) rfl rfl (y_pair (y_ixL (Y.q (y_var rfl)) (Y.loose (y_var rfl)) atk) (y_tupL (yq_loc (j := 0) rfl rfl))) (by rw [List.length_map, sizeLine_eq]; omega) ?_
      refine ys_next fun s H a => ⟨(d ++ [(nk, sm)], pr'), ?_, ?_⟩
      · exact Part.more h3 h2 hd (Nat.succ_pos _) hkn hnk s1 s2 s3 (fun y hy => (room_mem (s4 y hy)).1) fun y hy => (room_mem (s4 y hy)).2
      · have a := a.rel (L' := [(q, LoL K (usedOf d ++ sm)), (p, LoL K (d.map dRow ++ [dRow (nk, sm)]))]) (List.Sublist.cons _ (List.Sublist.refl _))
        show At _ _ [(q, LoL K (usedOf (d ++ [(nk, sm)]))), (p, LoL K ((d ++ [(nk, sm)]).map dRow))] s H
        have e : usedOf (d ++ [(nk, sm)]) = usedOf d ++ sm := by
          rw [used_append]
          show usedOf d ++ (sm ++ []) = _
          rw [List.append_nil]
        rw [e, List.map_append]
        exact a.weak (.keep (.keep (.keep (.keep (.keep (.keep (.drop (.drop (.drop (.drop (.keep .nil)))))))))))
    · refine ys_ifP (C := fun b => b = true → rest ≠ []) ?_ (fun hC => ?_) fun _ => ys_then (key ([z], pr) ⟨Nat.le_refl _, by show 1 ≤ 2; decide, by simp, fun y hy => by rw [List.mem_singleton.mp hy]; exact hz⟩)
      · refine yp_and (A := fun _ => True) (C := fun b => b = true → rest ≠ []) ((yp_test (K := K) (Y.loose (y_opBE (f := fun i j => decide (j < i)) (Y.loose (y_draw rfl (ya_cons (y_var rfl) (ya_cons y_int ya_nil)) (by decide) (by decide))) (Y.loose (y_int.ex (A := fun z => z = 1) rfl))))).imp fun _ _ => trivial) (fun _ => ?_) (fun c _ h => h) (fun _ h => by cases h)
        refine YP.imp (yt_and (c := decide (rest ≠ [])) (d := decide (pr < most)) (yt_test (K := K) (Y.loose (y_neT (Y.loose (y_var rfl)) (Y.loose (YF.dat (yf_lst yi_nil (Nat.zero_le _))))))) fun _ => yt_test (K := K) (Y.loose (y_opB (f := fun i j => decide (i < j)) (Y.loose (y_var rfl)) (Y.loose (y_var rfl))))) fun c hc e => ?_
        rw [hc] at e
        exact of_decide_eq_true (Bool.and_eq_true_iff.mp e).1
      · have hrest := hC rfl
        have rp : 0 < rest.length := List.length_pos_iff.mpr hrest
        refine ys_appendE (i := 8) (j := 0) (xs := [z]) (A := fun y => y ∈ rest) rfl rfl (Y.exm (y_ixLE (Y.q (y_var rfl)) (Y.loose (y_draw rfl (ya_cons (y_var rfl) (ya_cons (y_lenL (Y.loose (y_var rfl))) ya_nil)) (by omega) (by omega))) fun i hi => (pick rest i hi).imp fun z h => h.1) fun y ⟨i, hi, e⟩ => ?_) (by show 1 < sizeLine; decide) fun y hy => ?_
        · obtain ⟨z', e', m⟩ := pick rest i hi
          rw [e] at e'
          cases e'
          exact m
        refine ys_setD (t := Is K (pr + 1)) (y_opI (f := fun i j => i + j) (Y.loose (y_var rfl)) (Y.loose y_int)) ?_
        obtain ⟨m1, m2⟩ := rest_mem hy
        refine ys_then (key ([z, y], pr + 1) ⟨by show 1 ≤ 2; decide, Nat.le_refl _, ?_, fun v hv => ?_⟩)
        · exact List.nodup_cons.mpr ⟨fun h => m2 (List.mem_singleton.mp h).symm, by simp⟩
        · rcases List.mem_cons.mp hv with e | hv
          · rw [e]; exact hz
          · rw [List.mem_singleton.mp hv]; exact m1
  · rintro ⟨d, pr⟩ hd
    rw [rngI_length] at hd
    have hd : Part ns d (((ns.length : Int) - 1).toNat + 1) := hd
    refine ys_free (L1 := [(q, LoL K (usedOf d))]) (L2 := []) (i := 3) rfl ?_
    exact ys_ret (t := Ex K (RowsD ns.length)) ((y_var rfl : Y _ _ _ _ (Is K (d.map dRow))).ex ⟨d, rfl, hd.ro, by have := hd.len; omega, by have := hd.len; omega⟩) hQ
end
end K29
set_option Elab.async false
set_option linter.all false
set_option maxRecDepth 100000
set_option maxHeartbeats 4000000
/-! Plain: the links of a block. -/
namespace K29
open PySem PySem.Spec PyProof.Rows L2 G PySem.W TL
theorem links_cnt (row : List Str) (z : Str) : cnt (linksS row).flatten z = cnt row.dropLast z + cnt (row.drop 1) z := by
  induction row with
  | nil => rfl
  | cons a l ih =>
    cases l with
    | nil => rfl
    | cons b r =>
      have e : linksS (a :: b :: r) = [a, b] :: linksS (b :: r) := rfl
      rw [e, List.flatten_cons, cnt_append, ih]
      have e1 : (a :: b :: r).dropLast = a :: (b :: r).dropLast := rfl
      have e2 : (a :: b :: r).drop 1 = b :: r := rfl
      have e3 : (b :: r).drop 1 = r := rfl
      rw [e1, e2, e3]
      have c1 : ∀ (x : Str) (xs : List Str), cnt (x :: xs) z = cnt [x] z + cnt xs z := fun x xs => cnt_append [x] xs z
      rw [c1 a [b], c1 a (b :: r).dropLast, c1 b r]
      omega
theorem cnt_head {row : List Str} (h : row ≠ []) (z : Str) : cnt [row.headD stD] z + cnt (row.drop 1) z = cnt row z := by
  cases row with
  | nil => exact absurd rfl h
  | cons a l => exact (cnt_append [a] l z).symm
theorem cnt_last {row : List Str} (h : row ≠ []) (z : Str) : cnt row.dropLast z + cnt [row.getLastD stD] z = cnt row z := by
  have e : row.getLastD stD = row.getLast h := by
    rw [List.getLastD_eq_getLast?, List.getLast?_eq_some_getLast h]
    rfl
  rw [e, ← cnt_append, List.dropLast_concat_getLast h]
theorem block_cnt {row : List Str} (h : row ≠ []) (nd : row.Nodup) (form : Str) (z : Str) : cnt (blockOf row form).flatten z ≤ 2 := by
  have a := links_cnt row z
  have b := cnt_head h z
  have c := cnt_last h z
  have d := cnt_nodup z nd
  have one : ∀ (x : Str), cnt [[x]].flatten z = cnt [x] z := fun x => rfl
  have two : ∀ (x y : Str), cnt [[x, y]].flatten z = cnt [x] z + cnt [y] z := fun x y => cnt_append [x] [y] z
  unfold blockOf
  split
  · rw [List.flatten_append, cnt_append, one]
    omega
  · split
    · rw [List.flatten_append, cnt_append, two]
      omega
    · split
      · omega
      · rw [List.flatten_append, List.flatten_append, cnt_append, cnt_append, one, one]
        omega
/-- what a block's links are -/
structure LinkOk (rh l : List Str) : Prop where
  pos : 1 ≤ l.length
  two : l.length ≤ 2
  nd : l.Nodup
  sub : ∀ z, z ∈ l → z ∈ rh
theorem head_mem {row : List Str} (h : row ≠ []) : row.headD stD ∈ row := by
  cases row with
  | nil => exact absurd rfl h
  | cons a l => exact List.mem_cons_self
theorem last_mem {row : List Str} (h : row ≠ []) : row.getLastD stD ∈ row := by
  have e : row.getLastD stD = row.getLast h := by
    rw [List.getLastD_eq_getLast?, List.getLast?_eq_some_getLast h]
    rfl
  rw [e]
  exact List.getLast_mem h
theorem link_one {row : List Str} {x : Str} (h : x ∈ row) : LinkOk row [x] := ⟨Nat.le_refl _, by show 1 ≤ 2; decide, by simp, fun z hz => by rw [List.mem_singleton.mp hz]; exact h⟩
theorem link_two {row : List Str} {x y : Str} (hx : x ∈ row) (hy : y ∈ row) (ne : x ≠ y) : LinkOk row [x, y] := ⟨by show 1 ≤ 2; decide, Nat.le_refl _, List.nodup_cons.mpr ⟨fun m => ne (List.mem_singleton.mp m), by simp⟩, fun z hz => by
  rcases List.mem_cons.mp hz with e | hz
  · rw [e]; exact hx
  · rw [List.mem_singleton.mp hz]; exact hy⟩
theorem LinkOk.up {rh rh' l : List Str} (h : LinkOk rh l) (s : ∀ z, z ∈ rh → z ∈ rh') : LinkOk rh' l := ⟨h.pos, h.two, h.nd, fun z hz => s z (h.sub z hz)⟩
theorem linksS_ok : ∀ {row : List Str}, row.Nodup → ∀ l, l ∈ linksS row → LinkOk row l
  | [], _, l, h => absurd h List.not_mem_nil
  | [a], _, l, h => absurd h List.not_mem_nil
  | a :: b :: r, nd, l, h => by
    have nd' := List.nodup_cons.mp nd
    have e : linksS (a :: b :: r) = [a, b] :: linksS (b :: r) := rfl
    rw [e] at h
    rcases List.mem_cons.mp h with e | h
    · rw [e]
      exact link_two List.mem_cons_self (List.mem_cons_of_mem _ List.mem_cons_self) fun e => nd'.1 (by rw [e]; exact List.mem_cons_self)
    · exact (linksS_ok nd'.2 l h).up fun z hz => List.mem_cons_of_mem _ hz
theorem block_links {row : List Str} (h : row ≠ []) (nd : row.Nodup) (form : Str) : ∀ l, l ∈ blockOf row form → LinkOk row l := fun l hl => by
  have hh := head_mem h
  have hz := last_mem h
  have ls := linksS_ok nd
  unfold blockOf at hl
  split at hl
  · rcases List.mem_append.mp hl with hl | hl
    · rw [List.mem_singleton.mp hl]; exact link_one hh
    · exact ls l hl
  · split at hl
    · rename_i c
      rcases List.mem_append.mp hl with hl | hl
      · exact ls l hl
      · rw [List.mem_singleton.mp hl]
        refine link_two hz hh fun e => ?_
        have c := of_decide_eq_true (Bool.and_eq_true_iff.mp c).2
        cases row with
        | nil => exact h rfl
        | cons a r =>
          cases r with
          | nil => simp at c
          | cons b r =>
            have nd' := List.nodup_cons.mp nd
            have e2 : (a :: b :: r).getLastD stD = (b :: r).getLastD stD := rfl
            rw [e2] at e
            exact nd'.1 (by rw [show a = (b :: r).getLastD stD from e.symm]; exact last_mem (List.cons_ne_nil _ _))
    · split at hl
      · exact ls l hl
      · rcases List.mem_append.mp hl with hl | hl
        · rcases List.mem_append.mp hl with hl | hl
          · rw [List.mem_singleton.mp hl]; exact link_one hh
          · exact ls l hl
        · rw [List.mem_singleton.mp hl]; exact link_one hz
theorem block_ne {row : List Str} (h : row ≠ []) (form : Str) : blockOf row form ≠ [] := fun e => by
  unfold blockOf at e
  split at e
  · exact absurd e (List.cons_ne_nil _ _)
  · split at e
    · exact absurd (List.append_eq_nil_iff.mp e).2 (List.cons_ne_nil _ _)
    · split at e
      · rename_i c
        have c := of_decide_eq_true (Bool.and_eq_true_iff.mp c).2
        have l := linksS_len row
        rw [e] at l
        have l : 0 = row.length - 1 := l
        omega
      · exact absurd (List.append_eq_nil_iff.mp e).2 (List.cons_ne_nil _ _)
/-- each source picked by a link of its own -/
def Picks (rh : List Str) (ls : List (List Str)) : Prop := ∃ pk : Nat → Str, (∀ (i : Nat) (l : List Str), ls[i]? = some l → pk i ∈ l) ∧ ∀ z, z ∈ rh → ∃ i, i < ls.length ∧ pk i = z
theorem linksS_at {row : List Str} {i : Nat} (h : i + 1 < row.length) : (linksS row)[i]? = some [row[i], row[i + 1]] := by
  unfold linksS
  have e2 : (row.zip (row.drop 1))[i]? = some (row[i], row[i + 1]) := by
    rw [List.getElem?_zip_eq_some]
    refine ⟨List.getElem?_eq_getElem (by omega), ?_⟩
    rw [List.getElem?_drop, Nat.add_comm]
    exact List.getElem?_eq_getElem (by omega)
  rw [List.getElem?_map, e2]
  rfl
theorem head_eq {row : List Str} (h : row ≠ []) : row.headD stD = row[0]'(List.length_pos_iff.mpr h) := by
  cases row with
  | nil => exact absurd rfl h
  | cons a l => rfl
theorem last_eq {row : List Str} (h : row ≠ []) : row.getLastD stD = row[row.length - 1]'(by have := List.length_pos_iff.mpr h; omega) := by
  rw [List.getLastD_eq_getLast?, List.getLast?_eq_getElem?, List.getElem?_eq_getElem (by have := List.length_pos_iff.mpr h; omega)]
  rfl
/-- the first links behind the first source's own -/
theorem picks_first {row : List Str} (h : row ≠ []) {rest : List (List Str)} (hr : ∀ l, l ∈ rest → l ≠ []) : Picks row (([[row.headD stD]] ++ linksS row) ++ rest) := by
  have hp := List.length_pos_iff.mpr h
  have ll := linksS_len row
  refine ⟨fun i => if h : i < row.length then row[i] else ((rest[i - row.length]?).getD []).headD stD, fun i l hl => ?_, fun z hz => ?_⟩
  · by_cases c : i < row.length
    · show (if h : i < row.length then row[i] else _) ∈ l
      rw [dif_pos c]
      rw [List.getElem?_append_left (by rw [List.length_append, ll]; show i < 1 + _; omega)] at hl
      cases i with
      | zero =>
        have e : l = [row.headD stD] := by cases hl; rfl
        rw [e, head_eq h]
        exact List.mem_cons_self
      | succ j =>
        have e : (linksS row)[j]? = some l := hl
        rw [linksS_at (by omega)] at e
        cases e
        exact List.mem_cons_of_mem _ List.mem_cons_self
    · show (if h : i < row.length then row[i] else _) ∈ l
      rw [dif_neg c]
      rw [List.getElem?_append_right (by rw [List.length_append, ll]; show 1 + _ ≤ i; omega)] at hl
      have e : i - ([[row.headD stD]] ++ linksS row).length = i - row.length := by
        rw [List.length_append, ll]
        show i - (1 + (row.length - 1)) = _
        omega
      rw [e] at hl
      rw [hl]
      have := hr l (List.mem_of_getElem? hl)
      show l.headD stD ∈ l
      exact head_mem this
  · obtain ⟨i, hi, e⟩ := List.mem_iff_getElem.mp hz
    refine ⟨i, ?_, ?_⟩
    · rw [List.length_append, List.length_append, ll]
      show i < 1 + _ + _
      omega
    · show (if h : i < row.length then row[i] else _) = z
      rw [dif_pos hi]
      exact e
theorem block_picks {row : List Str} (h : row ≠ []) {form : Str} (hf : form ≠ "short") : Picks row (blockOf row form) := by
  have hp := List.length_pos_iff.mpr h
  have ll := linksS_len row
  unfold blockOf
  split
  · have := picks_first h (rest := []) fun l hl => absurd hl List.not_mem_nil
    rwa [List.append_nil] at this
  · split
    · rename_i c
      have c := of_decide_eq_true (Bool.and_eq_true_iff.mp c).2
      refine ⟨fun i => row.getD i stD, fun i l hl => ?_, fun z hz => ?_⟩
      · by_cases q : i < row.length - 1
        · rw [List.getElem?_append_left (by omega), linksS_at (by omega)] at hl
          cases hl
          show row.getD i stD ∈ _
          rw [List.getD_eq_getElem?_getD, List.getElem?_eq_getElem (by omega)]
          exact List.mem_cons_self
        · rw [List.getElem?_append_right (by omega)] at hl
          have z : i - (linksS row).length < 1 := (List.getElem?_eq_some_iff.mp hl).1
          have z : i = row.length - 1 := by omega
          subst z
          rw [ll, Nat.sub_self] at hl
          cases hl
          show row.getD (row.length - 1) stD ∈ _
          rw [List.getD_eq_getElem?_getD, List.getElem?_eq_getElem (by omega), last_eq h]
          exact List.mem_cons_self
      · obtain ⟨i, hi, e⟩ := List.mem_iff_getElem.mp hz
        refine ⟨i, ?_, ?_⟩
        · rw [List.length_append, ll]
          show i < _ + 1
          omega
        · show row.getD i stD = z
          rw [List.getD_eq_getElem?_getD, List.getElem?_eq_getElem hi]
          exact e
    · split
      · rename_i c
        exact absurd (of_decide_eq_true (Bool.and_eq_true_iff.mp c).1) hf
      · exact picks_first h fun l hl => by rw [List.mem_singleton.mp hl]; exact List.cons_ne_nil _ _
end K29
set_option Elab.async false
set_option linter.all false
set_option maxRecDepth 100000
set_option maxHeartbeats 4000000
/-! The law's defs: a web laid zigzag by zigzag. -/
namespace K29
open PySem PySem.Spec PyProof.Rows L2 G PySem.W TL
/-- every used source is picked by some copy -/
def Pickable (d : List NRow) : Prop := ∃ pk : Str → Str, (∀ r, r ∈ d → r.2 ≠ [] → pk r.1 ∈ r.2) ∧ ∀ z, z ∈ usedOf d → ∃ r, r ∈ d ∧ r.2 ≠ [] ∧ pk r.1 = z
theorem Pickable.one {x : Str} : Pickable [(x, [])] := ⟨fun _ => stD, fun r hr h => by rw [List.mem_singleton.mp hr] at h; exact absurd rfl h, fun z hz => absurd hz List.not_mem_nil⟩
theorem used_mem {d : List NRow} {z : Str} : z ∈ usedOf d ↔ ∃ r, r ∈ d ∧ z ∈ r.2 := List.mem_flatMap
theorem used_sub {d : List NRow} (ro : RowsOk d) {z : Str} (h : z ∈ usedOf d) : z ∈ d.map (·.1) := by
  obtain ⟨r, hr, hz⟩ := used_mem.mp h
  obtain ⟨k, hk⟩ := List.mem_iff_getElem?.mp hr
  by_cases c : 0 < k
  · obtain ⟨q, hq, e⟩ := List.mem_map.mp ((ro.src k r hk c).2.2.2 z hz)
    exact List.mem_map.mpr ⟨q, List.mem_of_mem_take hq, e⟩
  · have c : k = 0 := by omega
    subst c
    rw [ro.hd r hk] at hz
    cases hz
structure LaidI (ns : List Str) (d : List NRow) (lo : List Str) : Prop where
  part : Part ns d d.length
  ne : d ≠ []
  le : d.length ≤ ns.length
  nd : lo.Nodup
  sub : ∀ z, z ∈ lo → z ∈ d.map (·.1)
  un : ∀ z, z ∈ lo → z ∉ usedOf d
  lne : lo ≠ []
/-- the new rows of a block, as far as laid -/
structure NewI (ns : List Str) (d : List NRow) (ls : List (List Str)) (j : Nat) (e : List NRow) : Prop where
  part : Part ns (d ++ e) (d.length + j)
  len : e.length = j
  cnt : ∀ z, cnt (usedOf e) z = cnt (ls.take j).flatten z
  same : ∀ (i : Nat) (r : NRow), e[i]? = some r → ∃ l, ls[i]? = some l ∧ ∀ z, z ∈ r.2 ↔ z ∈ l
/-- links that may be laid -/
structure LinksI (lo : List Str) (rh : List Str) (ls : List (List Str)) : Prop where
  ok : ∀ l, l ∈ ls → LinkOk rh l
  two : ∀ z, cnt ls.flatten z ≤ 2
  ne : ls ≠ []
  sub : ∀ z, z ∈ rh → z ∈ lo
theorem cnt_rev (l : List Str) (z : Str) : cnt l.reverse z = cnt l z := List.countP_reverse
theorem flat_rev : ∀ (ls : List (List Str)) (z : Str), cnt ls.reverse.flatten z = cnt ls.flatten z
  | [], _ => rfl
  | l :: ls, z => by
    have e1 : cnt [l].flatten z = cnt l z := by
      show cnt (l ++ []) z = _
      rw [List.append_nil]
    rw [List.reverse_cons, List.flatten_append, cnt_append, flat_rev ls z, e1, List.flatten_cons, cnt_append]
    omega
theorem LinksI.rev {lo rh : List Str} {ls : List (List Str)} (h : LinksI lo rh ls) : LinksI lo rh ls.reverse := ⟨fun l hl => h.ok l (List.mem_reverse.mp hl), fun z => by rw [flat_rev]; exact h.two z, fun e => h.ne (List.reverse_eq_nil_iff.mp e), h.sub⟩
theorem Picks.rev {rh : List Str} {ls : List (List Str)} (h : Picks rh ls) : Picks rh ls.reverse := by
  obtain ⟨pk, h1, h2⟩ := h
  refine ⟨fun i => pk (ls.length - 1 - i), fun i l hl => ?_, fun z hz => ?_⟩
  · have hi : i < ls.length := by
      have := (List.getElem?_eq_some_iff.mp hl).1
      rwa [List.length_reverse] at this
    rw [List.getElem?_reverse hi] at hl
    exact h1 _ l hl
  · obtain ⟨i, hi, e⟩ := h2 z hz
    refine ⟨ls.length - 1 - i, by rw [List.length_reverse]; omega, ?_⟩
    show pk (ls.length - 1 - (ls.length - 1 - i)) = z
    rw [show ls.length - 1 - (ls.length - 1 - i) = i by omega]
    exact e
theorem NewI.zero {ns : List Str} {d : List NRow} {ls : List (List Str)} (p : Part ns d d.length) : NewI ns d ls 0 [] := ⟨by rw [List.append_nil]; exact p, rfl, fun z => rfl, fun i r h => by cases h⟩
theorem NewI.more {ns lo rh : List Str} {d e : List NRow} {ls : List (List Str)} {j : Nat} {l l' : List Str} {x : Str} (hn : NsOk ns.length ns) (h24 : ns.length ≤ 24) (L : LaidI ns d lo) (I : LinksI lo rh ls) (N : NewI ns d ls j e) (hl : ls[j]? = some l) (hx : ns[d.length + j]? = some x) (hr : l' = l ∨ l' = l.reverse) : NewI ns d ls (j + 1) (e ++ [(x, l')]) := by
  have lk := I.ok l (List.mem_of_getElem? hl)
  have hj : j < ls.length := (List.getElem?_eq_some_iff.mp hl).1
  have mem : ∀ z, z ∈ l' ↔ z ∈ l := fun z => by
    rcases hr with e | e
    · rw [e]
    · rw [e]; exact List.mem_reverse
  have len : l'.length = l.length := by
    rcases hr with e | e
    · rw [e]
    · rw [e, List.length_reverse]
  have nd : l'.Nodup := by
    rcases hr with e | e
    · rw [e]; exact lk.nd
    · rw [e]; exact List.pairwise_reverse.mpr (List.Pairwise.imp Ne.symm lk.nd)
  have ct : ∀ z, K29.cnt l' z = K29.cnt l z := fun z => by
    rcases hr with e | e
    · rw [e]
    · rw [e]; exact cnt_rev l z
  have tk : ∀ z, K29.cnt (ls.take (j + 1)).flatten z = K29.cnt (ls.take j).flatten z + K29.cnt l z := fun z => by
    rw [List.take_succ_eq_append_getElem hj, List.flatten_append, cnt_append, (List.getElem?_eq_some_iff.mp hl).2]
    show _ + K29.cnt (l ++ []) z = _
    rw [List.append_nil]
  have tot : ∀ z, K29.cnt (ls.take (j + 1)).flatten z ≤ 2 := fun z => by
    have a := I.two z
    have e : ls.flatten = (ls.take (j + 1)).flatten ++ (ls.drop (j + 1)).flatten := by rw [← List.flatten_append, List.take_append_drop]
    rw [e, cnt_append] at a
    omega
  have ul : ∀ z, K29.cnt (usedOf (d ++ e)) z = K29.cnt (usedOf d) z + K29.cnt (usedOf e) z := fun z => by rw [used_append, cnt_append]
  have hk : d.length + j < ns.length := (List.getElem?_eq_some_iff.mp hx).1
  have dl : 0 < d.length := List.length_pos_iff.mpr L.ne
  refine ⟨?_, by rw [List.length_append, N.len]; rfl, fun z => ?_, fun i r h => ?_⟩
  · rw [← List.append_assoc]
    refine Part.more hn h24 N.part (by omega) hk hx (by rw [len]; exact lk.pos) (by rw [len]; exact lk.two) nd (fun z hz => ?_) fun z hz => ?_
    · rw [List.map_append]
      exact List.mem_append_left _ (L.sub z (I.sub z (lk.sub z ((mem z).mp hz))))
    · have hz := (mem z).mp hz
      have a := cnt_zero (L.un z (I.sub z (lk.sub z hz)))
      have b := N.cnt z
      have c := tk z
      have t := tot z
      have p := cnt_pos hz
      rw [ul z, a, b]
      omega
  · rw [used_append, cnt_append, N.cnt z, tk z]
    show _ + K29.cnt (l' ++ []) z = _
    rw [List.append_nil, ct z]
  · by_cases c : i < e.length
    · rw [List.getElem?_append_left c] at h
      exact N.same i r h
    · rw [List.getElem?_append_right (Nat.le_of_not_lt c)] at h
      have z : i - e.length < 1 := (List.getElem?_eq_some_iff.mp h).1
      have z : i = e.length := by omega
      subst z
      rw [Nat.sub_self] at h
      cases h
      exact ⟨l, by rw [N.len]; exact hl, mem⟩
theorem NewI.used {ns lo rh : List Str} {d e : List NRow} {ls : List (List Str)} {j : Nat} (I : LinksI lo rh ls) (N : NewI ns d ls j e) {z : Str} (h : z ∈ usedOf e) : z ∈ rh := by
  obtain ⟨r, hr, hz⟩ := used_mem.mp h
  obtain ⟨i, hi⟩ := List.mem_iff_getElem?.mp hr
  obtain ⟨l, hl, m⟩ := N.same i r hi
  exact (I.ok l (List.mem_of_getElem? hl)).sub z ((m z).mp hz)
theorem NewI.fresh {ns : List Str} {d e : List NRow} {ls : List (List Str)} {j : Nat} (N : NewI ns d ls j e) {z : Str} (h : z ∈ e.map (·.1)) : z ∉ d.map (·.1) := fun m => by
  have nd := N.part.ro.nd
  rw [List.map_append] at nd
  exact (List.nodup_append.mp nd).2.2 z m z h rfl
theorem LaidI.next {ns lo rh : List Str} {d e : List NRow} {ls : List (List Str)} (L : LaidI ns d lo) (I : LinksI lo rh ls) (N : NewI ns d ls ls.length e) (hle : d.length + ls.length ≤ ns.length) : LaidI ns (d ++ e) ((lo.filter fun z => !inB z rh) ++ e.map (·.1)) := by
  have el : (d ++ e).length = d.length + ls.length := by rw [List.length_append, N.len]
  have keep : ∀ {z}, z ∈ (lo.filter fun z => !inB z rh) → z ∈ lo ∧ z ∉ rh := fun hz => by
    obtain ⟨a, b⟩ := List.mem_filter.mp hz
    refine ⟨a, fun m => ?_⟩
    rw [inB_true.mpr m] at b
    cases b
  have nde : (e.map (·.1)).Nodup := by
    have nd := N.part.ro.nd
    rw [List.map_append] at nd
    exact (List.nodup_append.mp nd).2.1
  refine ⟨by rw [el]; exact N.part, fun h => L.ne (List.append_eq_nil_iff.mp h).1, by rw [el]; exact hle, ?_, fun z hz => ?_, fun z hz m => ?_, fun h => ?_⟩
  · refine List.nodup_append.mpr ⟨List.Nodup.sublist List.filter_sublist L.nd, nde, fun a ha b hb e => ?_⟩
    rw [← e] at hb
    exact N.fresh hb (L.sub a (keep ha).1)
  · rw [List.map_append]
    rcases List.mem_append.mp hz with hz | hz
    · exact List.mem_append_left _ (L.sub z (keep hz).1)
    · exact List.mem_append_right _ hz
  · rw [used_append] at m
    rcases List.mem_append.mp hz with hz | hz
    · rcases List.mem_append.mp m with m | m
      · exact L.un z (keep hz).1 m
      · exact (keep hz).2 (N.used I m)
    · rcases List.mem_append.mp m with m | m
      · exact N.fresh hz (used_sub L.part.ro m)
      · exact N.fresh hz (L.sub z (I.sub z (N.used I m)))
  · have a := (List.append_eq_nil_iff.mp h).2
    have b : e.length = 0 := by rw [List.map_eq_nil_iff.mp a]; rfl
    rw [N.len] at b
    exact I.ne (List.eq_nil_of_length_eq_zero b)
theorem Pickable.next {ns lo rh : List Str} {d e : List NRow} {ls : List (List Str)} (L : LaidI ns d lo) (I : LinksI lo rh ls) (N : NewI ns d ls ls.length e) (hp : Pickable d) (hk : Picks rh ls) : Pickable (d ++ e) := by
  obtain ⟨pk, p1, p2⟩ := hp
  obtain ⟨pb, q1, q2⟩ := hk
  have nde : (e.map (·.1)).Nodup := by
    have nd := N.part.ro.nd
    rw [List.map_append] at nd
    exact (List.nodup_append.mp nd).2.1
  have idx : ∀ (i : Nat) (r : NRow), e[i]? = some r → idxB r.1 (e.map (·.1)) = i := fun i r h => by
    have hi : i < e.length := (List.getElem?_eq_some_iff.mp h).1
    have hm : r.1 ∈ e.map (·.1) := List.mem_map.mpr ⟨r, List.mem_of_getElem? h, rfl⟩
    have hlt := idxB_lt hm
    letI : BEq Str := instBEqOfDecidableEq
    have e1 : (e.map (·.1))[idxB r.1 (e.map (·.1))] = r.1 := List.getElem_idxOf hlt
    have e2 : (e.map (·.1))[i]'(by rw [List.length_map]; exact hi) = r.1 := by rw [List.getElem_map, (List.getElem?_eq_some_iff.mp h).2]
    by_cases c : idxB r.1 (e.map (·.1)) < i
    · exact absurd (e1.trans e2.symm) (List.pairwise_iff_getElem.mp nde _ _ hlt (by rw [List.length_map]; exact hi) c)
    · by_cases c2 : i < idxB r.1 (e.map (·.1))
      · exact absurd (e2.trans e1.symm) (List.pairwise_iff_getElem.mp nde _ _ (by rw [List.length_map]; exact hi) hlt c2)
      · omega
  have new : ∀ (i : Nat) (r : NRow), e[i]? = some r → (if inB r.1 (d.map (·.1)) then pk r.1 else pb (idxB r.1 (e.map (·.1)))) = pb i ∧ pb i ∈ r.2 := fun i r h => by
    have f := N.fresh (List.mem_map.mpr ⟨r, List.mem_of_getElem? h, rfl⟩)
    obtain ⟨l, hl, m⟩ := N.same i r h
    rw [if_neg (by rw [inB_false.mpr f]; exact Bool.false_ne_true), idx i r h]
    exact ⟨rfl, (m _).mpr (q1 i l hl)⟩
  have old : ∀ r, r ∈ d → (if inB r.1 (d.map (·.1)) then pk r.1 else pb (idxB r.1 (e.map (·.1)))) = pk r.1 := fun r hr => if_pos (inB_true.mpr (List.mem_map.mpr ⟨r, hr, rfl⟩))
  refine ⟨fun x => if inB x (d.map (·.1)) then pk x else pb (idxB x (e.map (·.1))), fun r hr hne => ?_, fun z hz => ?_⟩
  · rcases List.mem_append.mp hr with hr | hr
    · show (if inB r.1 (d.map (·.1)) then pk r.1 else _) ∈ r.2
      rw [old r hr]
      exact p1 r hr hne
    · obtain ⟨i, hi⟩ := List.mem_iff_getElem?.mp hr
      obtain ⟨a, b⟩ := new i r hi
      show (if inB r.1 (d.map (·.1)) then pk r.1 else _) ∈ r.2
      rw [a]
      exact b
  · rw [used_append] at hz
    rcases List.mem_append.mp hz with hz | hz
    · obtain ⟨r, h1, h2, h3⟩ := p2 z hz
      refine ⟨r, List.mem_append_left _ h1, h2, ?_⟩
      show (if inB r.1 (d.map (·.1)) then pk r.1 else _) = z
      rw [old r h1]
      exact h3
    · obtain ⟨i, hi, e1⟩ := q2 z (N.used I hz)
      have hi' : i < e.length := by rw [N.len]; exact hi
      have hr := List.getElem?_eq_getElem hi'
      obtain ⟨a, b⟩ := new i _ hr
      refine ⟨e[i], List.mem_append_right _ (List.getElem_mem hi'), ?_, ?_⟩
      · intro z
        rw [z] at b
        cases b
      show (if inB e[i].1 (d.map (·.1)) then pk e[i].1 else _) = z
      rw [a]
      exact e1
end K29
set_option Elab.async false
set_option linter.all false
set_option maxRecDepth 100000
/-! Plain: the rows of a web's lines. -/
namespace K29
open PySem PySem.Spec PyProof.Rows L2 G PySem.W
/-- no three lines share a source, or a copy -/
structure Deg (ls : List Ln) : Prop where
  nd : ls.Nodup
  s : ∀ a b d, a ∈ ls → b ∈ ls → d ∈ ls → a.1 = b.1 → a.1 = d.1 → a = b ∨ a = d ∨ b = d
  c : ∀ a b d, a ∈ ls → b ∈ ls → d ∈ ls → a.2 = b.2 → a.2 = d.2 → a = b ∨ a = d ∨ b = d
theorem beside_iff {a b : Ln} : beside a b = true ↔ a ≠ b ∧ (a.1 = b.1 ∨ a.2 = b.2) := by
  unfold beside
  simp
theorem beside_sym {a b : Ln} (h : beside a b = true) : beside b a = true := by
  rw [beside_iff] at h ⊢
  exact ⟨fun e => h.1 e.symm, h.2.imp Eq.symm Eq.symm⟩
theorem beside_ne {a b : Ln} (h : beside a b = true) : a ≠ b := (beside_iff.mp h).1
theorem Deg.two {ls : List Ln} (D : Deg ls) {a b c d : Ln} (ha : a ∈ ls) (hb : b ∈ ls) (hc : c ∈ ls) (hd : d ∈ ls) (b1 : beside b a = true) (c1 : beside c a = true) (d1 : beside d a = true) : b = c ∨ b = d ∨ c = d := by
  rw [beside_iff] at b1 c1 d1
  have two : ∀ x y : Ln, x ∈ ls → y ∈ ls → x ≠ a → y ≠ a → (x.1 = a.1 ∧ y.1 = a.1 ∨ x.2 = a.2 ∧ y.2 = a.2) → x = y := by
    intro x y hx hy nx ny h
    rcases h with h | h
    · rcases D.s a x y ha hx hy h.1.symm h.2.symm with e | e | e
      · exact absurd e.symm nx
      · exact absurd e.symm ny
      · exact e
    · rcases D.c a x y ha hx hy h.1.symm h.2.symm with e | e | e
      · exact absurd e.symm nx
      · exact absurd e.symm ny
      · exact e
  rcases b1.2 with p | p <;> rcases c1.2 with q | q <;> rcases d1.2 with r | r
  · exact .inl (two b c hb hc b1.1 c1.1 (.inl ⟨p, q⟩))
  · exact .inl (two b c hb hc b1.1 c1.1 (.inl ⟨p, q⟩))
  · exact .inr (.inl (two b d hb hd b1.1 d1.1 (.inl ⟨p, r⟩)))
  · exact .inr (.inr (two c d hc hd c1.1 d1.1 (.inr ⟨q, r⟩)))
  · exact .inr (.inr (two c d hc hd c1.1 d1.1 (.inl ⟨q, r⟩)))
  · exact .inr (.inl (two b d hb hd b1.1 d1.1 (.inr ⟨p, r⟩)))
  · exact .inl (two b c hb hc b1.1 c1.1 (.inr ⟨p, q⟩))
  · exact .inl (two b c hb hc b1.1 c1.1 (.inr ⟨p, q⟩))
theorem nd_inj {α : Type} {xs : List α} (h : xs.Nodup) {i j : Nat} {a : α} (hi : xs[i]? = some a) (hj : xs[j]? = some a) : i = j := by
  obtain ⟨h1, e1⟩ := List.getElem?_eq_some_iff.mp hi
  obtain ⟨h2, e2⟩ := List.getElem?_eq_some_iff.mp hj
  exact (List.getElem_inj h).mp (e1.trans e2.symm)
theorem getE_lt {α : Type} {xs : List α} {i : Nat} {a : α} (h : xs[i]? = some a) : i < xs.length := (List.getElem?_eq_some_iff.mp h).1
theorem getE_mem {α : Type} {xs : List α} {i : Nat} {a : α} (h : xs[i]? = some a) : a ∈ xs := List.mem_of_getElem? h
/-- on the way of a walk -/
structure WInv (ls : List Ln) (st : Ln) (f : List Ln) (now : Ln) : Prop where
  nd : f.Nodup
  sub : ∀ x, x ∈ f → x ∈ ls
  hd : f[0]? = some st
  last : f[f.length - 1]? = some now
  adj : ∀ (i : Nat) (a b : Ln), f[i]? = some a → f[i + 1]? = some b → beside a b = true
theorem WInv.pos {ls : List Ln} {st now : Ln} {f : List Ln} (w : WInv ls st f now) : 0 < f.length := getE_lt w.hd
theorem WInv.more {ls : List Ln} {st now x : Ln} {f r : List Ln} (w : WInv ls st f now) (h : later ls f now = x :: r) : WInv ls st (f ++ [x]) x := by
  have hx : x ∈ later ls f now := by rw [h]; exact List.mem_cons_self
  obtain ⟨h1, h2⟩ := List.mem_filter.mp hx
  obtain ⟨h3, h4⟩ := Bool.and_eq_true_iff.mp h2
  have h4 : x ∉ f := inB_false.mp (by simpa using h4)
  have p := w.pos
  refine ⟨?_, fun y hy => ?_, ?_, ?_, fun i a b ha hb => ?_⟩
  · refine List.nodup_append.mpr ⟨w.nd, by simp, fun a ha b hb e => ?_⟩
    rw [List.mem_singleton.mp hb] at e
    exact h4 (e ▸ ha)
  · rcases List.mem_append.mp hy with q | q
    · exact w.sub y q
    · rw [List.mem_singleton.mp q]; exact h1
  · rw [List.getElem?_append_left p]; exact w.hd
  · rw [List.length_append, List.getElem?_append_right (by simp)]
    simp
  · have hi : i + 1 < f.length + 1 := by have := getE_lt hb; rwa [List.length_append] at this
    rw [List.getElem?_append_left (by omega)] at ha
    by_cases c : i + 1 < f.length
    · rw [List.getElem?_append_left c] at hb
      exact w.adj i a b ha hb
    · have e : i = f.length - 1 := by omega
      rw [List.getElem?_append_right (by omega)] at hb
      have e2 : i + 1 - f.length = 0 := by omega
      rw [e2] at hb
      cases hb
      rw [e, w.last] at ha
      cases ha
      exact beside_sym h3
theorem walkO_inv {ls : List Ln} {st : Ln} : ∀ (n : Nat) (f : List Ln) (now : Ln), WInv ls st f now → (ls.filter fun l => decide (l ∉ f)).length ≤ n → ∃ z, WInv ls st (walkO ls n f now) z ∧ ∀ l, l ∈ ls → beside l z = true → l ∈ walkO ls n f now
  | 0, f, now, w, h => ⟨now, w, fun l hl _ => by
    by_cases c : l ∈ f
    · exact c
    · have : l ∈ ls.filter fun l => decide (l ∉ f) := List.mem_filter.mpr ⟨hl, decide_eq_true c⟩
      have := List.length_pos_of_mem this
      omega⟩
  | n + 1, f, now, w, h => by
    unfold walkO
    split
    · rename_i e
      refine ⟨now, w, fun l hl b => ?_⟩
      by_cases c : l ∈ f
      · exact c
      · have : l ∈ later ls f now := List.mem_filter.mpr ⟨hl, by rw [b, inB_false.mpr c]; rfl⟩
        rw [e] at this
        cases this
    · rename_i x r e
      exact walkO_inv n _ _ (w.more e) (by have := later_lt e; omega)
theorem walk_inv {ls : List Ln} {st : Ln} (h : st ∈ ls) : ∃ z, WInv ls st (walk ls st) z ∧ ∀ l, l ∈ ls → beside l z = true → l ∈ walk ls st := by
  refine walkO_inv _ _ _ ⟨by simp, fun x hx => by rw [List.mem_singleton.mp hx]; exact h, rfl, rfl, fun i a b _ hb => ?_⟩ (List.length_filter_le _ _)
  have := getE_lt hb
  simp at this
theorem WInv.mid {ls : List Ln} {st now a l : Ln} {f : List Ln} (D : Deg ls) (w : WInv ls st f now) {i : Nat} (h0 : 0 < i) (h1 : i + 1 < f.length) (ha : f[i]? = some a) (hl : l ∈ ls) (hb : beside l a = true) : f[i - 1]? = some l ∨ f[i + 1]? = some l := by
  obtain ⟨p, hp⟩ : ∃ p, f[i - 1]? = some p := ⟨_, List.getElem?_eq_getElem (by omega)⟩
  obtain ⟨q, hq⟩ : ∃ q, f[i + 1]? = some q := ⟨_, List.getElem?_eq_getElem h1⟩
  have e : i - 1 + 1 = i := by omega
  have b1 := w.adj (i - 1) p a hp (by rw [e]; exact ha)
  have b2 := beside_sym (w.adj i a q ha hq)
  rcases D.two (w.sub a (getE_mem ha)) hl (w.sub p (getE_mem hp)) (w.sub q (getE_mem hq)) hb b1 b2 with e | e | e
  · left; rw [e]; exact hp
  · right; rw [e]; exact hq
  · rw [e] at hp
    have := nd_inj w.nd hp hq
    omega
theorem WInv.end_ {ls : List Ln} {st z l : Ln} {f : List Ln} (D : Deg ls) (w : WInv ls st f z) (fin : ∀ l, l ∈ ls → beside l z = true → l ∈ f) (hl : l ∈ ls) (hb : beside l z = true) : (1 < f.length ∧ f[f.length - 2]? = some l) ∨ l = st := by
  obtain ⟨j, hj⟩ := List.mem_iff_getElem?.mp (fin l hl hb)
  have jl := getE_lt hj
  by_cases c0 : j = 0
  · right
    rw [c0, w.hd] at hj
    cases hj; rfl
  · by_cases c1 : j + 1 = f.length
    · have : j = f.length - 1 := by omega
      rw [this, w.last] at hj
      cases hj
      exact absurd rfl (beside_ne hb)
    · by_cases c2 : j + 2 = f.length
      · left
        refine ⟨by omega, ?_⟩
        rw [show f.length - 2 = j by omega]
        exact hj
      · rcases w.mid D (i := j) (by omega) (by omega) hj (w.sub z (getE_mem w.last)) (beside_sym hb) with e | e
        · have := nd_inj w.nd e w.last
          omega
        · have := nd_inj w.nd e w.last
          omega
/-- a zigzag as a row -/
structure RowOk (ls row : List Ln) : Prop where
  ne : row ≠ []
  nd : row.Nodup
  sub : ∀ x, x ∈ row → x ∈ ls
  adj : ∀ (i : Nat) (a b : Ln), row[i]? = some a → row[i + 1]? = some b → beside a b = true
  nb : ∀ (i : Nat) (a l : Ln), row[i]? = some a → l ∈ ls → beside l a = true → ∃ j, row[j]? = some l ∧ (j = i + 1 ∨ i = j + 1 ∨ (isClosed row = true ∧ ((i = 0 ∧ j + 1 = row.length) ∨ (j = 0 ∧ i + 1 = row.length))))
theorem RowOk.cl {ls row : List Ln} (r : RowOk ls row) {a l : Ln} (ha : a ∈ row) (hl : l ∈ ls) (hb : beside l a = true) : l ∈ row := by
  obtain ⟨i, hi⟩ := List.mem_iff_getElem?.mp ha
  obtain ⟨j, hj, _⟩ := r.nb i a l hi hl hb
  exact getE_mem hj
/-- what holds a line of a chain holds them all -/
theorem chain_in {ls row : List Ln} {S : Ln → Prop} (sub : ∀ x, x ∈ row → x ∈ ls) (adj : ∀ (i : Nat) (a b : Ln), row[i]? = some a → row[i + 1]? = some b → beside a b = true) (cl : ∀ a l, S a → l ∈ ls → beside l a = true → S l) {x : Ln} (hx : x ∈ row) (sx : S x) : ∀ y, y ∈ row → S y := by
  obtain ⟨i, hi⟩ := List.mem_iff_getElem?.mp hx
  have up : ∀ k y, row[i + k]? = some y → S y := by
    intro k
    induction k with
    | zero => intro y hy; rw [Nat.add_zero, hi] at hy; cases hy; exact sx
    | succ k ih =>
      intro y hy
      have hl := getE_lt hy
      obtain ⟨p, hp⟩ : ∃ p, row[i + k]? = some p := ⟨_, List.getElem?_eq_getElem (by omega)⟩
      exact cl p y (ih p hp) (sub y (getE_mem hy)) (beside_sym (adj _ p y hp hy))
  have down : ∀ k y, k ≤ i → row[i - k]? = some y → S y := by
    intro k
    induction k with
    | zero => intro y _ hy; rw [Nat.sub_zero, hi] at hy; cases hy; exact sx
    | succ k ih =>
      intro y hk hy
      have hl := getE_lt hi
      obtain ⟨p, hp⟩ : ∃ p, row[i - k]? = some p := ⟨_, List.getElem?_eq_getElem (by omega)⟩
      refine cl p y (ih p (by omega) hp) (sub y (getE_mem hy)) (adj (i - (k + 1)) y p hy ?_)
      rw [show i - (k + 1) + 1 = i - k by omega]
      exact hp
  intro y hy
  obtain ⟨j, hj⟩ := List.mem_iff_getElem?.mp hy
  by_cases c : i ≤ j
  · exact up (j - i) y (by rw [show i + (j - i) = j by omega]; exact hj)
  · exact down (i - j) y (by omega) (by rw [show i - (i - j) = j by omega]; exact hj)
theorem headD_at {α : Type} {xs : List α} {d x : α} (h : xs[0]? = some x) : xs.headD d = x := by
  cases xs with
  | nil => cases h
  | cons a l => cases h; rfl
theorem lastD_at {α : Type} {xs : List α} {d x : α} (h : xs[xs.length - 1]? = some x) : xs.getLastD d = x := by
  rw [List.getLastD_eq_getLast?, List.getLast?_eq_getElem?, h]
  rfl
theorem closed_iff {row : List Ln} {a z : Ln} (ha : row[0]? = some a) (hz : row[row.length - 1]? = some z) : isClosed row = true ↔ 2 < row.length ∧ beside a z = true := by
  unfold isClosed
  rw [headD_at ha, lastD_at hz]
  simp
theorem row_ring {ls : List Ln} {st : Ln} (D : Deg ls) (h : st ∈ ls) (hc : isClosed (walk ls st) = true) : RowOk ls (walk ls st) := by
  obtain ⟨z, w, fin⟩ := walk_inv h
  have p := w.pos
  have ⟨c1, c2⟩ := (closed_iff w.hd w.last).mp hc
  refine ⟨List.length_pos_iff.mp p, w.nd, w.sub, w.adj, fun i a l ha hl hb => ?_⟩
  have il := getE_lt ha
  by_cases i0 : i = 0
  · subst i0
    rw [w.hd] at ha
    cases ha
    obtain ⟨q, hq⟩ : ∃ q, (walk ls st)[0 + 1]? = some q := ⟨_, List.getElem?_eq_getElem (by omega)⟩
    rcases D.two h hl (w.sub q (getE_mem hq)) (w.sub z (getE_mem w.last)) hb (beside_sym (w.adj 0 st q w.hd hq)) (beside_sym c2) with e | e | e
    · exact ⟨1, by rw [e]; exact hq, .inl rfl⟩
    · exact ⟨(walk ls st).length - 1, by rw [e]; exact w.last, .inr (.inr ⟨hc, .inl ⟨rfl, by omega⟩⟩)⟩
    · rw [e] at hq
      have := nd_inj w.nd hq w.last
      omega
  · by_cases i1 : i + 1 < (walk ls st).length
    · rcases w.mid D (by omega) i1 ha hl hb with e | e
      · exact ⟨i - 1, e, .inr (.inl (by omega))⟩
      · exact ⟨i + 1, e, .inl rfl⟩
    · have e : i = (walk ls st).length - 1 := by omega
      rw [e, w.last] at ha
      cases ha
      rcases w.end_ D fin hl hb with q | q
      · exact ⟨_, q.2, .inr (.inl (by omega))⟩
      · exact ⟨0, by rw [q]; exact w.hd, .inr (.inr ⟨hc, .inr ⟨rfl, by omega⟩⟩)⟩
/-- a line with one line beside it at most -/
def EndL (ls : List Ln) (e : Ln) : Prop := ∀ l l', l ∈ ls → l' ∈ ls → beside l e = true → beside l' e = true → l = l'
theorem walk_end {ls : List Ln} {st z : Ln} (D : Deg ls) (w : WInv ls st (walk ls st) z) (fin : ∀ l, l ∈ ls → beside l z = true → l ∈ walk ls st) (hc : isClosed (walk ls st) = false) : EndL ls z := by
  have one : ∀ l, l ∈ ls → beside l z = true → 1 < (walk ls st).length ∧ (walk ls st)[(walk ls st).length - 2]? = some l := by
    intro l hl hb
    rcases w.end_ D fin hl hb with q | q
    · exact q
    · subst q
      by_cases c : 2 < (walk ls l).length
      · rw [(closed_iff w.hd w.last).mpr ⟨c, hb⟩] at hc
        cases hc
      · by_cases c1 : (walk ls l).length = 2
        · refine ⟨by omega, ?_⟩
          rw [c1]
          exact w.hd
        · have p := w.pos
          have h1 := w.last
          rw [show (walk ls l).length - 1 = 0 by omega, w.hd] at h1
          cases h1
          exact absurd rfl (beside_ne hb)
  intro l l' hl hl' hb hb'
  have a := (one l hl hb).2
  rw [(one l' hl' hb').2] at a
  cases a; rfl
theorem row_path {ls : List Ln} {e : Ln} (D : Deg ls) (h : e ∈ ls) (he : EndL ls e) : RowOk ls (walk ls e) ∧ isClosed (walk ls e) = false := by
  obtain ⟨z, w, fin⟩ := walk_inv h
  have p := w.pos
  have open_ : isClosed (walk ls e) = false := by
    cases hc : isClosed (walk ls e) with
    | false => rfl
    | true =>
      have ⟨c1, c2⟩ := (closed_iff w.hd w.last).mp hc
      obtain ⟨q, hq⟩ : ∃ q, (walk ls e)[0 + 1]? = some q := ⟨_, List.getElem?_eq_getElem (by omega)⟩
      have := he q z (w.sub q (getE_mem hq)) (w.sub z (getE_mem w.last)) (beside_sym (w.adj 0 e q w.hd hq)) (beside_sym c2)
      rw [this] at hq
      have := nd_inj w.nd hq w.last
      omega
  refine ⟨⟨List.length_pos_iff.mp p, w.nd, w.sub, w.adj, fun i a l ha hl hb => ?_⟩, open_⟩
  have il := getE_lt ha
  by_cases i0 : i = 0
  · subst i0
    rw [w.hd] at ha
    cases ha
    by_cases c : 1 < (walk ls e).length
    · obtain ⟨q, hq⟩ : ∃ q, (walk ls e)[0 + 1]? = some q := ⟨_, List.getElem?_eq_getElem (by omega)⟩
      have := he l q hl (w.sub q (getE_mem hq)) hb (beside_sym (w.adj 0 e q w.hd hq))
      exact ⟨1, by rw [this]; exact hq, .inl rfl⟩
    · have h1 := w.last
      rw [show (walk ls e).length - 1 = 0 by omega, w.hd] at h1
      cases h1
      rcases w.end_ D fin hl hb with q | q
      · omega
      · exact absurd q (beside_ne hb)
  · by_cases i1 : i + 1 < (walk ls e).length
    · rcases w.mid D (by omega) i1 ha hl hb with e | e
      · exact ⟨i - 1, e, .inr (.inl (by omega))⟩
      · exact ⟨i + 1, e, .inl rfl⟩
    · have ei : i = (walk ls e).length - 1 := by omega
      rw [ei, w.last] at ha
      cases ha
      rcases w.end_ D fin hl hb with q | q
      · exact ⟨_, q.2, .inr (.inl (by omega))⟩
      · subst q
        obtain ⟨q, hq⟩ : ∃ q, (walk ls l)[0 + 1]? = some q := ⟨_, List.getElem?_eq_getElem (by omega)⟩
        have := he q z (w.sub q (getE_mem hq)) (w.sub z (getE_mem w.last)) (beside_sym (w.adj 0 l q w.hd hq)) (beside_sym hb)
        rw [this] at hq
        have := nd_inj w.nd hq w.last
        exact ⟨0, w.hd, .inr (.inl (by omega))⟩
theorem RowOk.rev {ls row : List Ln} (r : RowOk ls row) (hc : isClosed row = false) : RowOk ls row.reverse ∧ isClosed row.reverse = false := by
  have p := List.length_pos_iff.mpr r.ne
  have at_ : ∀ {i : Nat} {a : Ln}, row.reverse[i]? = some a → i < row.length ∧ row[row.length - 1 - i]? = some a := fun {i a} h => by
    have hi : i < row.length := by have := getE_lt h; rwa [List.length_reverse] at this
    rw [List.getElem?_reverse hi] at h
    exact ⟨hi, h⟩
  have back : ∀ {j : Nat} {a : Ln}, row[j]? = some a → row.reverse[row.length - 1 - j]? = some a := fun {j a} h => by
    have hj := getE_lt h
    rw [List.getElem?_reverse (by omega), show row.length - 1 - (row.length - 1 - j) = j by omega]
    exact h
  obtain ⟨x, hx⟩ : ∃ x, row[0]? = some x := ⟨_, List.getElem?_eq_getElem p⟩
  obtain ⟨z, hz⟩ : ∃ z, row[row.length - 1]? = some z := ⟨_, List.getElem?_eq_getElem (by omega)⟩
  have open_ : isClosed row.reverse = false := by
    cases c : isClosed row.reverse with
    | false => rfl
    | true =>
      have h1 : row.reverse[0]? = some z := by have := back hz; rwa [show row.length - 1 - (row.length - 1) = 0 by omega] at this
      have h2 : row.reverse[row.reverse.length - 1]? = some x := by
        rw [List.length_reverse]
        have := back hx
        rwa [Nat.sub_zero] at this
      have ⟨c1, c2⟩ := (closed_iff h1 h2).mp c
      rw [List.length_reverse] at c1
      rw [(closed_iff hx hz).mpr ⟨c1, beside_sym c2⟩] at hc
      cases hc
  refine ⟨⟨fun e => r.ne (List.reverse_eq_nil_iff.mp e), List.pairwise_reverse.mpr (List.Pairwise.imp Ne.symm r.nd), fun x hx => r.sub x (List.mem_reverse.mp hx), fun i a b ha hb => ?_, fun i a l ha hl hb => ?_⟩, open_⟩
  · obtain ⟨i1, a1⟩ := at_ ha
    obtain ⟨i2, b1⟩ := at_ hb
    refine beside_sym (r.adj (row.length - 1 - (i + 1)) b a b1 ?_)
    rw [show row.length - 1 - (i + 1) + 1 = row.length - 1 - i by omega]
    exact a1
  · obtain ⟨i1, a1⟩ := at_ ha
    obtain ⟨j, hj, o⟩ := r.nb _ a l a1 hl hb
    have jl := getE_lt hj
    refine ⟨row.length - 1 - j, back hj, ?_⟩
    rcases o with o | o | ⟨o, _⟩
    · exact .inr (.inl (by omega))
    · exact .inl (by omega)
    · rw [hc] at o; cases o
theorem rowOf_ok {ls : List Ln} {l : Ln} (D : Deg ls) (h : l ∈ ls) : RowOk ls (rowOf ls l) ∧ l ∈ rowOf ls l := by
  obtain ⟨z, w, fin⟩ := walk_inv h
  have e : rowOf ls l = if isClosed (walk ls l) then walk ls l else if idxB ((walk ls ((walk ls l).getLastD lnD)).headD lnD) ls ≤ idxB ((walk ls ((walk ls l).getLastD lnD)).getLastD lnD) ls then walk ls ((walk ls l).getLastD lnD) else (walk ls ((walk ls l).getLastD lnD)).reverse := rfl
  rw [e]
  cases hc : isClosed (walk ls l) with
  | true =>
    rw [if_pos rfl]
    exact ⟨row_ring D h hc, getE_mem w.hd⟩
  | false =>
    rw [if_neg (by decide), lastD_at w.last]
    have hz := w.sub z (getE_mem w.last)
    have pr := row_path D hz (walk_end D w fin hc)
    obtain ⟨y, w2, _⟩ := walk_inv hz
    have hl : l ∈ walk ls z := chain_in (S := fun x => x ∈ walk ls z) w.sub w.adj (fun a l ha hl hb => pr.1.cl ha hl hb) (getE_mem w.last) (getE_mem w2.hd) l (getE_mem w.hd)
    split
    · exact ⟨pr.1, hl⟩
    · exact ⟨(pr.1.rev pr.2).1, List.mem_reverse.mpr hl⟩
/-- rows found, so far -/
structure RowsI (ls : List Ln) (s : List (List Ln) × List Ln) : Prop where
  met : s.2 = s.1.flatten
  ok : ∀ r, r ∈ s.1 → RowOk ls r
  nd : s.2.Nodup
theorem RowsI.step {ls : List Ln} {s : List (List Ln) × List Ln} {l : Ln} (D : Deg ls) (h : l ∈ ls) (I : RowsI ls s) : RowsI ls (rowsStep ls s l) ∧ l ∈ (rowsStep ls s l).2 ∧ ∀ x, x ∈ s.2 → x ∈ (rowsStep ls s l).2 := by
  unfold rowsStep
  split
  · rename_i c
    exact ⟨I, c, fun x h => h⟩
  · rename_i c
    have ⟨r1, r2⟩ := rowOf_ok D h
    refine ⟨⟨?_, fun r hr => ?_, ?_⟩, List.mem_append_right _ r2, fun x hx => List.mem_append_left _ hx⟩
    · show s.2 ++ _ = _
      rw [List.flatten_append, I.met]
      simp
    · rcases List.mem_append.mp hr with q | q
      · exact I.ok r q
      · rw [List.mem_singleton.mp q]; exact r1
    · refine List.nodup_append.mpr ⟨I.nd, r1.nd, fun a ha b hb e => c ?_⟩
      subst e
      rw [I.met] at ha ⊢
      obtain ⟨r, hr, har⟩ := List.mem_flatten.mp ha
      exact List.mem_flatten.mpr ⟨r, hr, chain_in (S := fun x => x ∈ r) r1.sub r1.adj (fun a l ha hl hb => (I.ok r hr).cl ha hl hb) hb har l r2⟩
theorem rows_all {ls : List Ln} (D : Deg ls) : ∀ (xs : List Ln) (s : List (List Ln) × List Ln), (∀ x, x ∈ xs → x ∈ ls) → RowsI ls s → RowsI ls (xs.foldl (rowsStep ls) s) ∧ (∀ x, x ∈ xs → x ∈ (xs.foldl (rowsStep ls) s).2) ∧ ∀ x, x ∈ s.2 → x ∈ (xs.foldl (rowsStep ls) s).2
  | [], s, _, I => ⟨I, fun x h => absurd h List.not_mem_nil, fun x h => h⟩
  | l :: xs, s, hs, I => by
    obtain ⟨a, b, c⟩ := I.step D (hs l List.mem_cons_self)
    obtain ⟨d, e, f⟩ := rows_all D xs _ (fun x hx => hs x (List.mem_cons_of_mem _ hx)) a
    exact ⟨d, fun x hx => (List.mem_cons.mp hx).elim (fun q => by rw [q]; exact f l b) (e x), fun x hx => f x (c x hx)⟩
/-- the rows part the lines -/
structure PartR (ls : List Ln) (zz : List (List Ln)) : Prop where
  ok : ∀ r, r ∈ zz → RowOk ls r
  nd : zz.flatten.Nodup
  all : ∀ l, l ∈ zz.flatten ↔ l ∈ ls
theorem rowsIn_ok {ls : List Ln} (D : Deg ls) : PartR ls (rowsIn ls) := by
  have ⟨a, b, c⟩ := rows_all D ls ([], []) (fun x h => h) ⟨rfl, fun r h => (nomatch h), List.nodup_nil⟩
  refine ⟨a.ok, by have := a.nd; rwa [a.met] at this, fun l => ⟨fun h => ?_, fun h => ?_⟩⟩
  · obtain ⟨r, hr, hl⟩ := List.mem_flatten.mp h
    exact (a.ok r hr).sub l hl
  · have := b l h
    rwa [a.met] at this
end K29
set_option Elab.async false
set_option linter.all false
set_option maxRecDepth 100000
/-! Plain: the settings of a row. -/
namespace K29
open PySem PySem.Spec PyProof.Rows L2 G PySem.W
/-- further truths along a row -/
def Chn (f : Ln → Option Bool) : Ln → Bool → List Ln → List Bool → Prop
  | _, _, [], t => t = []
  | a, k, b :: ys, t => ∃ m ts, t = m :: ts ∧ (f b).getD m = m ∧ isLet a b k m = true ∧ Chn f b m ys ts
theorem links_cons (a b : Ln) (ys : List Ln) : links (a :: b :: ys) = (a, b) :: links (b :: ys) := rfl
theorem mem_stL {f : Ln → Option Bool} {l : Ln} {k : Bool} : k ∈ stL f l ↔ (f l).getD k = k := by
  unfold stL
  rw [List.mem_filter]
  constructor
  · intro h; exact of_decide_eq_true h.2
  · intro h; exact ⟨by cases k <;> decide, decide_eq_true h⟩
theorem mem_setStep {f : Ln → Option Bool} {ss : List (List Bool)} {a b : Ln} {s : List Bool} : s ∈ setStep f ss (a, b) ↔ ∃ p m, p ∈ ss ∧ s = p ++ [m] ∧ (f b).getD m = m ∧ isLet a b (p.getLastD true) m = true := by
  unfold setStep
  rw [List.mem_flatMap]
  constructor
  · rintro ⟨p, hp, h⟩
    obtain ⟨m, hm, e⟩ := List.mem_map.mp h
    obtain ⟨h1, h2⟩ := List.mem_filter.mp hm
    exact ⟨p, m, hp, e.symm, mem_stL.mp h1, h2⟩
  · rintro ⟨p, m, hp, e, h1, h2⟩
    exact ⟨p, hp, List.mem_map.mpr ⟨m, List.mem_filter.mpr ⟨mem_stL.mpr h1, h2⟩, e.symm⟩⟩
theorem last_snoc (p : List Bool) (m d : Bool) : (p ++ [m]).getLastD d = m := by simp
theorem mem_fold {f : Ln → Option Bool} : ∀ (xs : List Ln) (a : Ln) (ss : List (List Bool)) (s : List Bool), s ∈ (links (a :: xs)).foldl (setStep f) ss ↔ ∃ p t, p ∈ ss ∧ s = p ++ t ∧ Chn f a (p.getLastD true) xs t
  | [], a, ss, s => by
    show s ∈ ss ↔ _
    constructor
    · intro h; exact ⟨s, [], h, (List.append_nil s).symm, rfl⟩
    · rintro ⟨p, t, h, e, c⟩
      have c : t = [] := c
      rw [e, c, List.append_nil]; exact h
  | b :: ys, a, ss, s => by
    rw [links_cons, List.foldl_cons, mem_fold ys b]
    constructor
    · rintro ⟨p, t, h, e, c⟩
      obtain ⟨q, m, hq, e1, h1, h2⟩ := mem_setStep.mp h
      rw [e1, last_snoc] at c
      exact ⟨q, m :: t, hq, by rw [e, e1, List.append_assoc]; rfl, m, t, rfl, h1, h2, c⟩
    · rintro ⟨q, t, hq, e, m, ts, e1, h1, h2, c⟩
      refine ⟨q ++ [m], ts, mem_setStep.mpr ⟨q, m, hq, rfl, h1, h2⟩, by rw [e, e1, List.append_assoc]; rfl, ?_⟩
      rw [last_snoc]
      exact c
theorem chn_len {f : Ln → Option Bool} : ∀ {xs : List Ln} {a : Ln} {k : Bool} {t : List Bool}, Chn f a k xs t → t.length = xs.length
  | [], _, _, t, h => by have h : t = [] := h; rw [h]; rfl
  | b :: ys, _, _, t, ⟨m, ts, e, _, _, c⟩ => by rw [e, List.length_cons, List.length_cons, chn_len c]
theorem chn_map {f : Ln → Option Bool} {k : Ln → Bool} : ∀ {xs : List Ln} {a : Ln}, Chn f a (k a) xs (xs.map k) ↔ (∀ b, b ∈ xs → (f b).getD (k b) = k b) ∧ ∀ (i : Nat) (x y : Ln), (a :: xs)[i]? = some x → (a :: xs)[i + 1]? = some y → isLet x y (k x) (k y) = true
  | [], a => by
    constructor
    · intro _
      refine ⟨fun b h => absurd h List.not_mem_nil, fun i x y _ h => ?_⟩
      have := getE_lt h
      simp at this
    · intro _; rfl
  | b :: ys, a => by
    constructor
    · rintro ⟨m, ts, e, h1, h2, c⟩
      have e := List.cons.inj e
      rw [← e.1] at h1 h2 c
      rw [← e.2] at c
      obtain ⟨c1, c2⟩ := chn_map.mp c
      refine ⟨fun z hz => ?_, fun i x y hx hy => ?_⟩
      · rcases List.mem_cons.mp hz with q | q
        · rw [q]; exact h1
        · exact c1 z q
      · cases i with
        | zero => cases hx; cases hy; exact h2
        | succ i => exact c2 i x y hx hy
    · rintro ⟨h1, h2⟩
      exact ⟨k b, ys.map k, rfl, h1 b List.mem_cons_self, h2 0 a b rfl rfl, chn_map.mpr ⟨fun z hz => h1 z (List.mem_cons_of_mem _ hz), fun i x y hx hy => h2 (i + 1) x y hx hy⟩⟩
theorem head_map (k : Ln → Bool) (row : List Ln) (h : row ≠ []) : (row.map k).headD true = k (row.headD lnD) := by
  cases row with
  | nil => exact absurd rfl h
  | cons a l => rfl
theorem last_map (k : Ln → Bool) (row : List Ln) (h : row ≠ []) : (row.map k).getLastD true = k (row.getLastD lnD) := by
  rw [List.getLastD_eq_getLast?, List.getLastD_eq_getLast?, List.getLast?_map, List.getLast?_eq_some_getLast h]
  rfl
/-- truths of a row's lines that may be -/
structure Loc (row : List Ln) (k : Ln → Bool) : Prop where
  adj : ∀ (i : Nat) (x y : Ln), row[i]? = some x → row[i + 1]? = some y → isLet x y (k x) (k y) = true
  fst : isClosed row = false → k (row.headD lnD) = true
  lst : isClosed row = false → k (row.getLastD lnD) = true
  rng : isClosed row = true → isLet (row.getLastD lnD) (row.headD lnD) (k (row.getLastD lnD)) (k (row.headD lnD)) = true
def Fit (f : Ln → Option Bool) (row : List Ln) (k : Ln → Bool) : Prop := ∀ l, l ∈ row → (f l).getD (k l) = k l
theorem mem_begins {f : Ln → Option Bool} {row : List Ln} {b : Bool} : b ∈ begins f row ↔ (f (row.headD lnD)).getD b = b ∧ (isClosed row = false → b = true) := by
  unfold begins
  rw [List.mem_filter, mem_stL]
  cases isClosed row <;> cases b <;> simp
theorem sets_iff {f : Ln → Option Bool} {row : List Ln} (h : row ≠ []) (k : Ln → Bool) : row.map k ∈ settingsOf f row ↔ Fit f row k ∧ Loc row k := by
  unfold settingsOf
  rw [List.mem_filter, head_map k row h, last_map k row h]
  have rl : isRowLet row (k (row.headD lnD)) (k (row.getLastD lnD)) = true ↔ (isClosed row = false → k (row.getLastD lnD) = true) ∧ (isClosed row = true → isLet (row.getLastD lnD) (row.headD lnD) (k (row.getLastD lnD)) (k (row.headD lnD)) = true) := by
    unfold isRowLet
    cases isClosed row <;> simp
  rw [rl]
  cases row with
  | nil => exact absurd rfl h
  | cons a xs =>
    rw [mem_fold]
    have hd : (a :: xs).headD lnD = a := rfl
    constructor
    · rintro ⟨⟨p, t, hp, e, c⟩, r1, r2⟩
      obtain ⟨b, hb, rfl⟩ := List.mem_map.mp hp
      have e := List.cons.inj e
      have eb : k a = b := e.1
      have et : xs.map k = t := e.2
      have c : Chn f a b xs t := c
      rw [← eb, ← et] at c
      rw [← eb] at hb
      obtain ⟨c1, c2⟩ := chn_map.mp c
      obtain ⟨b1, b2⟩ := mem_begins.mp hb
      refine ⟨fun l hl => ?_, c2, b2, r1, r2⟩
      rcases List.mem_cons.mp hl with q | q
      · rw [q]; exact b1
      · exact c1 l q
    · rintro ⟨ft, lc⟩
      refine ⟨⟨[k a], xs.map k, List.mem_map.mpr ⟨k a, mem_begins.mpr ⟨ft a List.mem_cons_self, lc.fst⟩, rfl⟩, rfl, ?_⟩, lc.lst, lc.rng⟩
      exact chn_map.mpr ⟨fun b hb => ft b (List.mem_cons_of_mem _ hb), lc.adj⟩
theorem sets_len {f : Ln → Option Bool} {row : List Ln} (h : row ≠ []) {s : List Bool} (hs : s ∈ settingsOf f row) : s.length = row.length := by
  unfold settingsOf at hs
  have hs := (List.mem_filter.mp hs).1
  cases row with
  | nil => exact absurd rfl h
  | cons a xs =>
    obtain ⟨p, t, hp, e, c⟩ := (mem_fold xs a _ s).mp hs
    obtain ⟨b, hb, rfl⟩ := List.mem_map.mp hp
    rw [e]
    show t.length + 1 = xs.length + 1
    rw [chn_len c]
/-- the truths that a list beside a row tells -/
def kOf (row : List Ln) (s : List Bool) : Ln → Bool := fun l => s.getD (idxB l row) true
theorem idxB_nd {row : List Ln} (nd : row.Nodup) {i : Nat} {a : Ln} (h : row[i]? = some a) : idxB a row = i := by
  have hm : a ∈ row := getE_mem h
  have hl := idxB_lt hm
  letI : BEq Ln := instBEqOfDecidableEq
  have e : row[idxB a row] = a := List.getElem_idxOf hl
  exact nd_inj nd ((List.getElem?_eq_getElem hl).trans (congrArg some e)) h
theorem map_kOf {row : List Ln} {s : List Bool} (nd : row.Nodup) (h : s.length = row.length) : row.map (kOf row s) = s := by
  refine List.ext_getElem? fun i => ?_
  rw [List.getElem?_map]
  cases e : row[i]? with
  | none =>
    have := List.getElem?_eq_none_iff.mp e
    rw [List.getElem?_eq_none (by omega)]
    rfl
  | some a =>
    have hi := getE_lt e
    have hs : s[i]? = some s[i] := List.getElem?_eq_getElem (by omega)
    show some (s.getD (idxB a row) true) = _
    rw [idxB_nd nd e, List.getD_eq_getElem?_getD, hs]
    rfl
/-! ### how many -/
theorem step_append (f : Ln → Option Bool) (p : Ln × Ln) (s t : List (List Bool)) : setStep f (s ++ t) p = setStep f s p ++ setStep f t p := List.flatMap_append
theorem fold_append (f : Ln → Option Bool) : ∀ (ps : List (Ln × Ln)) (s t : List (List Bool)), ps.foldl (setStep f) (s ++ t) = ps.foldl (setStep f) s ++ ps.foldl (setStep f) t
  | [], s, t => rfl
  | p :: ps, s, t => by rw [List.foldl_cons, List.foldl_cons, List.foldl_cons, step_append, fold_append f ps]
theorem fold_nil (f : Ln → Option Bool) : ∀ (ps : List (Ln × Ln)), ps.foldl (setStep f) [] = []
  | [] => rfl
  | p :: ps => by rw [List.foldl_cons]; exact fold_nil f ps
theorem fold_flat (f : Ln → Option Bool) (ps : List (Ln × Ln)) : ∀ bs : List Bool, ps.foldl (setStep f) (bs.map fun b => [b]) = bs.flatMap fun b => ps.foldl (setStep f) [[b]]
  | [] => fold_nil f ps
  | b :: bs => by
    rw [List.map_cons, List.flatMap_cons, ← fold_flat f ps bs]
    exact fold_append f ps [[b]] _
theorem isum_append (xs ys : List Int) : (xs ++ ys).sum = xs.sum + ys.sum := by
  induction xs with
  | nil => simp
  | cons x xs ih => rw [List.cons_append, List.sum_cons, List.sum_cons, ih]; omega
/-- the counts tell how many end so -/
def Tells (now : List (Bool × Int)) (ss : List (List Bool)) : Prop := ∀ q : Bool → Bool, ((now.filter fun p => q p.1).map (·.2)).sum = (ss.countP (fun s => q (s.getLastD true)) : Nat)
theorem tells_one (b : Bool) : Tells [(b, 1)] [[b]] := fun q => by
  show ((List.filter _ [(b, (1 : Int))]).map (·.2)).sum = ((List.countP (fun s : List Bool => q (s.getLastD true)) [[b]] : Nat) : Int)
  rw [List.filter_cons, List.countP_cons]
  show _ = (((0 + if q b then 1 else 0 : Nat)) : Int)
  cases q b <;> rfl
theorem count_snoc (q : Bool → Bool) (s : List Bool) (ks : List Bool) : (ks.map fun k => s ++ [k]).countP (fun s => q (s.getLastD true)) = ks.countP q := by
  rw [List.countP_map]
  refine List.countP_congr fun k _ => ?_
  show q ((s ++ [k]).getLastD true) = true ↔ _
  rw [last_snoc]
theorem natsum_append (xs ys : List Nat) : (xs ++ ys).sum = xs.sum + ys.sum := by
  induction xs with
  | nil => simp
  | cons x xs ih => rw [List.cons_append, List.sum_cons, List.sum_cons, ih]; omega
theorem tells_step {f : Ln → Option Bool} {now : List (Bool × Int)} {ss : List (List Bool)} (h : Tells now ss) (a b : Ln) : Tells (nowStep f now (a, b)) (setStep f ss (a, b)) := fun q => by
  unfold nowStep setStep
  have gen : ∀ ks : List Bool, (((ks.map fun k => (k, ((now.filter fun q => isLet a b q.1 k).map (·.2)).sum)).filter fun p => q p.1).map (·.2)).sum = ((ss.flatMap fun s => (ks.filter fun k => isLet a b (s.getLastD true) k).map fun k => s ++ [k]).countP (fun s => q (s.getLastD true)) : Nat) := by
    intro ks
    induction ks with
    | nil =>
      rw [List.countP_flatMap]
      have : ∀ ts : List (List Bool), (ts.map ((List.countP fun s : List Bool => q (s.getLastD true)) ∘ fun s => (([] : List Bool).filter fun k => isLet a b (s.getLastD true) k).map fun k => s ++ [k])).sum = 0 := by
        intro ts
        induction ts with
        | nil => rfl
        | cons t ts ih => rw [List.map_cons, List.sum_cons, ih]; rfl
      rw [this]
      rfl
    | cons k ks ih =>
      have e : (ss.flatMap fun s => ((k :: ks).filter fun k => isLet a b (s.getLastD true) k).map fun k => s ++ [k]).countP (fun s => q (s.getLastD true)) = (if q k then ss.countP (fun s => isLet a b (s.getLastD true) k) else 0) + (ss.flatMap fun s => (ks.filter fun k => isLet a b (s.getLastD true) k).map fun k => s ++ [k]).countP (fun s => q (s.getLastD true)) := by
        rw [List.countP_flatMap, List.countP_flatMap]
        have : ∀ ts : List (List Bool), (ts.map ((List.countP fun s : List Bool => q (s.getLastD true)) ∘ fun s => ((k :: ks).filter fun k => isLet a b (s.getLastD true) k).map fun k => s ++ [k])).sum = (if q k then ts.countP (fun s => isLet a b (s.getLastD true) k) else 0) + (ts.map ((List.countP fun s : List Bool => q (s.getLastD true)) ∘ fun s => (ks.filter fun k => isLet a b (s.getLastD true) k).map fun k => s ++ [k])).sum := by
          intro ts
          induction ts with
          | nil => simp
          | cons t ts ih =>
            rw [List.map_cons, List.map_cons, List.sum_cons, List.sum_cons, ih, List.countP_cons]
            simp only [Function.comp_apply, count_snoc]
            rw [List.filter_cons]
            cases isLet a b (t.getLastD true) k
            · simp only [Bool.false_eq_true, ↓reduceIte, Nat.add_zero]
              omega
            · simp only [↓reduceIte]
              rw [List.countP_cons]
              cases q k <;> simp <;> omega
        exact this ss
      rw [e, List.map_cons, List.filter_cons]
      show (((if q k = true then _ else _) : List (Bool × Int)).map (·.2)).sum = _
      cases hq : q k
      · simp only [Bool.false_eq_true, ↓reduceIte, Nat.zero_add]
        exact ih
      · simp only [↓reduceIte]
        rw [List.map_cons, List.sum_cons, ih, h fun x => isLet a b x k]
        exact (Int.natCast_add _ _).symm
  exact gen (stL f b)
theorem tells_fold {f : Ln → Option Bool} : ∀ (ps : List (Ln × Ln)) {now : List (Bool × Int)} {ss : List (List Bool)}, Tells now ss → Tells (ps.foldl (nowStep f) now) (ps.foldl (setStep f) ss)
  | [], _, _, h => h
  | (a, b) :: ps, _, _, h => tells_fold ps (tells_step h a b)
theorem num_begin {f : Ln → Option Bool} {row : List Ln} (h : row ≠ []) (b : Bool) : numBegin f row b = (((links row).foldl (setStep f) [[b]]).filter fun s => isRowLet row (s.headD true) (s.getLastD true)).length := by
  unfold numBegin
  rw [tells_fold (links row) (tells_one b) fun x => isRowLet row b x, ← List.countP_eq_length_filter]
  refine congrArg _ (List.countP_congr fun s hs => ?_)
  cases row with
  | nil => exact absurd rfl h
  | cons a xs =>
    obtain ⟨p, t, hp, e, _⟩ := (mem_fold xs a _ s).mp hs
    rw [List.mem_singleton.mp hp] at e
    rw [e]
    exact Iff.rfl
theorem number_len {f : Ln → Option Bool} {row : List Ln} (h : row ≠ []) : numberIn f row = (settingsOf f row).length := by
  unfold numberIn settingsOf sets0
  rw [fold_flat]
  induction begins f row with
  | nil => rfl
  | cons b bs ih =>
    rw [List.map_cons, List.sum_cons, ih, num_begin h, List.flatMap_cons, List.filter_append, List.length_append]
    exact (Int.natCast_add _ _).symm
/-! ### few of them -/
def trN (ss : List (List Bool)) : Nat := ss.countP fun s => s.getLastD true
def faN (ss : List (List Bool)) : Nat := ss.countP fun s => !s.getLastD true
theorem tr_fa (ss : List (List Bool)) : ss.length = trN ss + faN ss := by
  unfold trN faN
  induction ss with
  | nil => rfl
  | cons s ss ih =>
    rw [List.length_cons, List.countP_cons, List.countP_cons, ih]
    cases s.getLastD true <;> simp <;> omega
theorem step_tr {f : Ln → Option Bool} {a b : Ln} : ∀ ss : List (List Bool), trN (setStep f ss (a, b)) ≤ (if a.2 = b.2 then faN ss else trN ss + faN ss) ∧ faN (setStep f ss (a, b)) ≤ trN ss
  | [] => by
    have e : setStep f [] (a, b) = [] := rfl
    rw [e]
    exact ⟨Nat.zero_le _, Nat.zero_le _⟩
  | s :: ss => by
    obtain ⟨ih1, ih2⟩ := step_tr ss (f := f) (a := a) (b := b)
    have e : setStep f (s :: ss) (a, b) = (((stL f b).filter fun k => isLet a b (s.getLastD true) k).map fun k => s ++ [k]) ++ setStep f ss (a, b) := rfl
    have c1 : trN (setStep f (s :: ss) (a, b)) = ((stL f b).filter fun k => isLet a b (s.getLastD true) k).countP (fun k => k) + trN (setStep f ss (a, b)) := by
      unfold trN
      rw [e, List.countP_append, count_snoc (fun k => k)]
    have c2 : faN (setStep f (s :: ss) (a, b)) = ((stL f b).filter fun k => isLet a b (s.getLastD true) k).countP (fun k => !k) + faN (setStep f ss (a, b)) := by
      unfold faN
      rw [e, List.countP_append, count_snoc (fun k => !k)]
    have d1 : ∀ g : Bool → Bool, ((stL f b).filter g).countP (fun k => k) ≤ if g true then 1 else 0 := fun g => by
      have : stL f b = [] ∨ stL f b = [true] ∨ stL f b = [false] ∨ stL f b = [true, false] := by
        unfold stL
        cases f b with
        | none => exact .inr (.inr (.inr rfl))
        | some x => cases x <;> simp
      rcases this with h | h | h | h <;> rw [h] <;> cases h1 : g true <;> cases h2 : g false <;> simp [h1, h2]
    have d2 : ∀ g : Bool → Bool, ((stL f b).filter g).countP (fun k => !k) ≤ if g false then 1 else 0 := fun g => by
      have : stL f b = [] ∨ stL f b = [true] ∨ stL f b = [false] ∨ stL f b = [true, false] := by
        unfold stL
        cases f b with
        | none => exact .inr (.inr (.inr rfl))
        | some x => cases x <;> simp
      rcases this with h | h | h | h <;> rw [h] <;> cases h1 : g true <;> cases h2 : g false <;> simp [h1, h2]
    have d1 := d1 fun k => isLet a b (s.getLastD true) k
    have d2 := d2 fun k => isLet a b (s.getLastD true) k
    have t1 : trN (s :: ss) = (if s.getLastD true then 1 else 0) + trN ss := by
      unfold trN; rw [List.countP_cons]; omega
    have t2 : faN (s :: ss) = (if s.getLastD true then 0 else 1) + faN ss := by
      unfold faN; rw [List.countP_cons]; cases s.getLastD true <;> simp <;> omega
    rw [c1, c2, t1, t2]
    generalize ((stL f b).filter fun k => isLet a b (s.getLastD true) k).countP (fun k => k) = x at d1 ⊢
    generalize ((stL f b).filter fun k => isLet a b (s.getLastD true) k).countP (fun k => !k) = y at d2 ⊢
    unfold isLet at d1 d2
    by_cases c : a.2 = b.2
    · rw [if_pos c] at ih1 ⊢
      simp only [if_pos c] at d1 d2
      cases hk : s.getLastD true <;> rw [hk] at d1 d2 <;> simp at d1 d2 ⊢ <;> omega
    · rw [if_neg c] at ih1 ⊢
      simp only [if_neg c] at d1 d2
      cases hk : s.getLastD true <;> rw [hk] at d1 d2 <;> simp at d1 d2 ⊢ <;> omega
/-- neighbours share in turn a copy and a source -/
def Alt (row : List Ln) : Prop := ∀ (i : Nat) (a b c : Ln), row[i]? = some a → row[i + 1]? = some b → row[i + 2]? = some c → ¬(a.2 = b.2 ↔ b.2 = c.2)
theorem fold_few {f : Ln → Option Bool} : ∀ (xs : List Ln) (a : Ln) (ss : List (List Bool)) (n : Nat), Alt (a :: xs) → ss.length ≤ n + 2 → (∀ b ys, xs = b :: ys → if a.2 = b.2 then faN ss ≤ 1 ∧ trN ss ≤ n + 1 else trN ss ≤ 1 ∧ faN ss ≤ n + 1) → ∀ j, (((links (a :: xs)).take j).foldl (setStep f) ss).length ≤ n + xs.length + 2
  | [], a, ss, n, _, h, _, j => by
    show (List.foldl _ ss (List.take j [])).length ≤ _
    rw [List.take_nil]
    exact h
  | b :: ys, a, ss, n, al, h, st, 0 => by
    show ss.length ≤ _
    rw [List.length_cons]
    omega
  | b :: ys, a, ss, n, al, h, st, j + 1 => by
    rw [links_cons, List.take_succ_cons, List.foldl_cons]
    have st := st b ys rfl
    obtain ⟨s1, s2⟩ := step_tr ss (f := f) (a := a) (b := b)
    have := fold_few (f := f) ys b (setStep f ss (a, b)) (n + 1) (fun i x y z hx hy hz => al (i + 1) x y z hx hy hz) ?_ ?_ j
    · rw [List.length_cons]
      omega
    · rw [tr_fa]
      by_cases c : a.2 = b.2
      · rw [if_pos c] at st s1
        omega
      · rw [if_neg c] at st s1
        omega
    · intro c zs e
      have al := al 0 a b c rfl rfl (by rw [e]; rfl)
      by_cases d : a.2 = b.2
      · have : ¬ b.2 = c.2 := fun z => al ⟨fun _ => z, fun _ => d⟩
        rw [if_neg this]
        rw [if_pos d] at st s1
        omega
      · have : b.2 = c.2 := Decidable.byContradiction fun z => al ⟨fun y => absurd y d, fun y => absurd y z⟩
        rw [if_pos this]
        rw [if_neg d] at st s1
        omega
theorem row_alt {ls row : List Ln} (D : Deg ls) (r : RowOk ls row) : Alt row := fun i a b c ha hb hc e => by
  have ma := r.sub a (getE_mem ha)
  have mb := r.sub b (getE_mem hb)
  have mc := r.sub c (getE_mem hc)
  have ne : a ≠ c := fun q => by
    rw [q] at ha
    have := nd_inj r.nd ha hc
    omega
  have b1 := beside_iff.mp (r.adj i a b ha hb)
  have b2 := beside_iff.mp (r.adj (i + 1) b c hb hc)
  by_cases d : a.2 = b.2
  · rcases D.c b a c mb ma mc d.symm (e.mp d) with q | q | q
    · exact b1.1 q.symm
    · exact b2.1 q
    · exact ne q
  · have d2 : ¬ b.2 = c.2 := fun q => d (e.mpr q)
    rcases D.s b a c mb ma mc ((b1.2.resolve_right d).symm) (b2.2.resolve_right d2) with q | q | q
    · exact b1.1 q.symm
    · exact b2.1 q
    · exact ne q
theorem row_few {ls row : List Ln} (D : Deg ls) (r : RowOk ls row) (hz : row.length ≤ 1000) (f : Ln → Option Bool) : ∀ j, (((links row).take j).foldl (setStep f) (sets0 f row)).length ≤ 1001 := by
  have al := row_alt D r
  have ne := r.ne
  cases row with
  | nil => exact absurd rfl ne
  | cons a xs =>
    intro j
    have hz : xs.length + 1 ≤ 1000 := hz
    have bs : begins f (a :: xs) = [] ∨ begins f (a :: xs) = [true] ∨ begins f (a :: xs) = [false] ∨ begins f (a :: xs) = [true, false] := by
      unfold begins stL
      have hd : (a :: xs).headD lnD = a := rfl
      rw [hd]
      cases f a with
      | none => cases isClosed (a :: xs) <;> simp
      | some x => cases x <;> cases isClosed (a :: xs) <;> simp
    have c : trN (sets0 f (a :: xs)) ≤ 1 ∧ faN (sets0 f (a :: xs)) ≤ 1 := by
      unfold sets0
      rcases bs with h | h | h | h <;> rw [h] <;> decide
    have := fold_few (f := f) xs a (sets0 f (a :: xs)) 0 al (by rw [tr_fa]; omega) (fun b ys _ => by split <;> omega) j
    omega
end K29
set_option Elab.async false
set_option linter.all false
set_option maxRecDepth 100000
/-! Plain: what may be kept, as a whole and row by row; the greatest sums. -/
namespace K29
open PySem PySem.Spec PyProof.Rows L2 G PySem.W
/-- one line for each copy, at least one for each source -/
structure Val (S : List Ln) (k : Ln → Bool) : Prop where
  c : ∀ l, l ∈ S → ∃ m, m ∈ S ∧ m.2 = l.2 ∧ k m = true
  u : ∀ l m, l ∈ S → m ∈ S → l.2 = m.2 → k l = true → k m = true → l = m
  s : ∀ l, l ∈ S → ∃ m, m ∈ S ∧ m.1 = l.1 ∧ k m = true
theorem Val.congr {S : List Ln} {k k' : Ln → Bool} (h : ∀ l, l ∈ S → k' l = k l) (v : Val S k) : Val S k' where
  c := fun l hl => let ⟨m, a, b, c⟩ := v.c l hl; ⟨m, a, b, (h m a).trans c⟩
  u := fun l m hl hm e a b => v.u l m hl hm e ((h l hl).symm.trans a) ((h m hm).symm.trans b)
  s := fun l hl => let ⟨m, a, b, c⟩ := v.s l hl; ⟨m, a, b, (h m a).trans c⟩
theorem Fit.congr {f : Ln → Option Bool} {S : List Ln} {k k' : Ln → Bool} (h : ∀ l, l ∈ S → k' l = k l) (v : Fit f S k) : Fit f S k' := fun l hl => by rw [h l hl]; exact v l hl
theorem isLet_iff {a b : Ln} {k m : Bool} : isLet a b k m = true ↔ (a.2 = b.2 → k ≠ m) ∧ (a.2 ≠ b.2 → k = true ∨ m = true) := by
  unfold isLet
  by_cases c : a.2 = b.2
  · simp [c]
  · simp [c]
theorem isLet_sym {a b : Ln} {k m : Bool} (h : isLet a b k m = true) : isLet b a m k = true := by
  rw [isLet_iff] at h ⊢
  exact ⟨fun e z => h.1 e.symm z.symm, fun e => (h.2 fun z => e z.symm).symm⟩
/-- lines beside one another in a row are let -/
theorem Loc.pair {ls row : List Ln} {k : Ln → Bool} (r : RowOk ls row) (lc : Loc row k) {a b : Ln} (ha : a ∈ row) (hb : b ∈ ls) (h : beside b a = true) : isLet a b (k a) (k b) = true := by
  obtain ⟨i, hi⟩ := List.mem_iff_getElem?.mp ha
  obtain ⟨j, hj, o⟩ := r.nb i a b hi hb h
  have il := getE_lt hi
  have jl := getE_lt hj
  rcases o with o | o | ⟨o, p | p⟩
  · subst o; exact lc.adj i a b hi hj
  · subst o; exact isLet_sym (lc.adj j b a hj hi)
  · have e1 : row.headD lnD = a := headD_at (by rw [← p.1]; exact hi)
    have e2 : row.getLastD lnD = b := lastD_at (by rw [show row.length - 1 = j by omega]; exact hj)
    have := lc.rng o
    rw [e1, e2] at this
    exact isLet_sym this
  · have e1 : row.headD lnD = b := headD_at (by rw [← p.1]; exact hj)
    have e2 : row.getLastD lnD = a := lastD_at (by rw [show row.length - 1 = i by omega]; exact hi)
    have := lc.rng o
    rw [e1, e2] at this
    exact this
theorem row_prev {ls row : List Ln} (r : RowOk ls row) {a b : Ln} {i : Nat} (ha : row[i]? = some a) (hb : row[i + 1]? = some b) : beside b a = true ∧ beside a b = true := ⟨beside_sym (r.adj i a b ha hb), r.adj i a b ha hb⟩
/-- a line that is not kept has two lines beside it -/
theorem Loc.two {ls row : List Ln} {k : Ln → Bool} (r : RowOk ls row) (lc : Loc row k) {a : Ln} (ha : a ∈ row) (hk : k a = false) : ∃ p q, p ∈ row ∧ q ∈ row ∧ p ≠ q ∧ beside p a = true ∧ beside q a = true := by
  obtain ⟨i, hi⟩ := List.mem_iff_getElem?.mp ha
  have il := getE_lt hi
  obtain ⟨x, hx⟩ : ∃ x, row[0]? = some x := ⟨_, List.getElem?_eq_getElem (by omega)⟩
  obtain ⟨z, hz⟩ : ∃ z, row[row.length - 1]? = some z := ⟨_, List.getElem?_eq_getElem (by omega)⟩
  by_cases i0 : i = 0
  · subst i0
    cases hc : isClosed row with
    | false =>
      have := lc.fst hc
      rw [headD_at hi, hk] at this
      cases this
    | true =>
      have ⟨c1, c2⟩ := (closed_iff hi hz).mp hc
      obtain ⟨q, hq⟩ : ∃ q, row[0 + 1]? = some q := ⟨_, List.getElem?_eq_getElem (by omega)⟩
      refine ⟨q, z, getE_mem hq, getE_mem hz, fun e => ?_, (row_prev r hi hq).1, beside_sym c2⟩
      rw [e] at hq
      have := nd_inj r.nd hq hz
      omega
  · obtain ⟨p, hp⟩ : ∃ p, row[i - 1]? = some p := ⟨_, List.getElem?_eq_getElem (by omega)⟩
    have bp : beside p a = true := r.adj (i - 1) p a hp (by rw [show i - 1 + 1 = i by omega]; exact hi)
    by_cases i1 : i + 1 < row.length
    · obtain ⟨q, hq⟩ : ∃ q, row[i + 1]? = some q := ⟨_, List.getElem?_eq_getElem i1⟩
      refine ⟨p, q, getE_mem hp, getE_mem hq, fun e => ?_, bp, (row_prev r hi hq).1⟩
      rw [e] at hp
      have := nd_inj r.nd hp hq
      omega
    · have e : i = row.length - 1 := by omega
      cases hc : isClosed row with
      | false =>
        have := lc.lst hc
        rw [e] at hi
        rw [lastD_at hi, hk] at this
        cases this
      | true =>
        rw [e] at hi
        have ⟨c1, c2⟩ := (closed_iff hx hi).mp hc
        refine ⟨p, x, getE_mem hp, getE_mem hx, fun e => ?_, bp, c2⟩
        rw [e] at hp
        have := nd_inj r.nd hp hx
        omega
theorem Deg.share {ls : List Ln} (D : Deg ls) {a p q : Ln} (ha : a ∈ ls) (hp : p ∈ ls) (hq : q ∈ ls) (ne : p ≠ q) (bp : beside p a = true) (bq : beside q a = true) : (p.2 = a.2 ∧ q.2 ≠ a.2 ∧ q.1 = a.1) ∨ (q.2 = a.2 ∧ p.2 ≠ a.2 ∧ p.1 = a.1) := by
  have bp := beside_iff.mp bp
  have bq := beside_iff.mp bq
  by_cases c : p.2 = a.2
  · have d : q.2 ≠ a.2 := fun z => by
      rcases D.c a p q ha hp hq c.symm z.symm with e | e | e
      · exact bp.1 e.symm
      · exact bq.1 e.symm
      · exact ne e
    exact .inl ⟨c, d, bq.2.resolve_right d⟩
  · by_cases d : q.2 = a.2
    · exact .inr ⟨d, c, bp.2.resolve_right c⟩
    · rcases D.s a p q ha hp hq (bp.2.resolve_right c).symm (bq.2.resolve_right d).symm with e | e | e
      · exact absurd e.symm bp.1
      · exact absurd e.symm bq.1
      · exact absurd e ne
theorem loc_val {ls row : List Ln} {k : Ln → Bool} (D : Deg ls) (r : RowOk ls row) : Loc row k ↔ Val row k := by
  constructor
  · intro lc
    have far : ∀ a, a ∈ row → (∃ m, m ∈ row ∧ m.2 = a.2 ∧ k m = true) ∧ ∃ m, m ∈ row ∧ m.1 = a.1 ∧ k m = true := by
      intro a ha
      cases hk : k a with
      | true => exact ⟨⟨a, ha, rfl, hk⟩, ⟨a, ha, rfl, hk⟩⟩
      | false =>
        obtain ⟨p, q, hp, hq, ne, bp, bq⟩ := lc.two r ha hk
        have lp := isLet_iff.mp (lc.pair r ha (r.sub p hp) bp)
        have lq := isLet_iff.mp (lc.pair r ha (r.sub q hq) bq)
        rw [hk] at lp lq
        have kc : ∀ {x : Ln} {y : Bool}, (a.2 = x.2 → false ≠ y) → x.2 = a.2 → y = true := fun h e => by
          have := h e.symm
          rename_i y
          cases y
          · exact absurd rfl this
          · rfl
        have ks : ∀ {x : Ln} {y : Bool}, (a.2 ≠ x.2 → false = true ∨ y = true) → x.2 ≠ a.2 → y = true := fun h e => (h fun z => e z.symm).resolve_left (by decide)
        rcases D.share (r.sub a ha) (r.sub p hp) (r.sub q hq) ne bp bq with ⟨e1, e2, e3⟩ | ⟨e1, e2, e3⟩
        · exact ⟨⟨p, hp, e1, kc lp.1 e1⟩, ⟨q, hq, e3, ks lq.2 e2⟩⟩
        · exact ⟨⟨q, hq, e1, kc lq.1 e1⟩, ⟨p, hp, e3, ks lp.2 e2⟩⟩
    refine ⟨fun l hl => (far l hl).1, fun l m hl hm e h1 h2 => ?_, fun l hl => (far l hl).2⟩
    by_cases c : l = m
    · exact c
    · have := isLet_iff.mp (lc.pair r hm (r.sub l hl) (beside_iff.mpr ⟨c, .inr e⟩))
      exact absurd (h2.trans h1.symm) (this.1 e.symm)
  · intro v
    have pair : ∀ a b, a ∈ row → b ∈ row → beside a b = true → isLet a b (k a) (k b) = true := by
      intro a b ha hb h
      have ⟨ne, sh⟩ := beside_iff.mp h
      refine isLet_iff.mpr ⟨fun e z => ?_, fun e => ?_⟩
      · cases ha' : k a with
        | true => exact ne (v.u a b ha hb e ha' (by rw [← z]; exact ha'))
        | false =>
          obtain ⟨m, hm, em, km⟩ := v.c a ha
          rcases D.c a b m (r.sub a ha) (r.sub b hb) (r.sub m hm) e em.symm with q | q | q
          · exact ne q
          · rw [← q, ha'] at km; cases km
          · rw [← q, ← z, ha'] at km; cases km
      · obtain ⟨m, hm, em, km⟩ := v.s a ha
        rcases D.s a b m (r.sub a ha) (r.sub b hb) (r.sub m hm) (sh.resolve_right e) em.symm with q | q | q
        · exact absurd q ne
        · left; rw [q]; exact km
        · right; rw [q]; exact km
    have one : ∀ a, a ∈ row → (∀ l l', l ∈ row → l' ∈ row → beside l a = true → beside l' a = true → l = l') → k a = true := by
      intro a ha h
      cases ka : k a with
      | true => rfl
      | false =>
        obtain ⟨m, hm, em, km⟩ := v.c a ha
        obtain ⟨n, hn, en, kn⟩ := v.s a ha
        have m1 : m ≠ a := fun z => by rw [z, ka] at km; cases km
        have n1 : n ≠ a := fun z => by rw [z, ka] at kn; cases kn
        have := h m n hm hn (beside_iff.mpr ⟨m1, .inr em⟩) (beside_iff.mpr ⟨n1, .inl en⟩)
        subst this
        exact absurd (Prod.ext en em) m1
    have p := List.length_pos_iff.mpr r.ne
    obtain ⟨x, hx⟩ : ∃ x, row[0]? = some x := ⟨_, List.getElem?_eq_getElem p⟩
    obtain ⟨z, hz⟩ : ∃ z, row[row.length - 1]? = some z := ⟨_, List.getElem?_eq_getElem (by omega)⟩
    refine ⟨fun i a b ha hb => pair a b (getE_mem ha) (getE_mem hb) (r.adj i a b ha hb), fun hc => ?_, fun hc => ?_, fun hc => ?_⟩
    · rw [headD_at hx]
      refine one x (getE_mem hx) fun l l' hl hl' b1 b2 => ?_
      obtain ⟨j, hj, o⟩ := r.nb 0 x l hx (r.sub l hl) b1
      obtain ⟨j', hj', o'⟩ := r.nb 0 x l' hx (r.sub l' hl') b2
      rw [hc] at o o'
      have e1 : j = 1 := by rcases o with o | o | ⟨o, _⟩ <;> first | omega | cases o
      have e2 : j' = 1 := by rcases o' with o | o | ⟨o, _⟩ <;> first | omega | cases o
      rw [e1] at hj
      rw [e2, hj] at hj'
      cases hj'; rfl
    · rw [lastD_at hz]
      refine one z (getE_mem hz) fun l l' hl hl' b1 b2 => ?_
      obtain ⟨j, hj, o⟩ := r.nb _ z l hz (r.sub l hl) b1
      obtain ⟨j', hj', o'⟩ := r.nb _ z l' hz (r.sub l' hl') b2
      have jl := getE_lt hj
      have jl' := getE_lt hj'
      rw [hc] at o o'
      have e1 : row.length - 1 = j + 1 := by rcases o with o | o | ⟨o, _⟩ <;> first | omega | cases o
      have e2 : row.length - 1 = j' + 1 := by rcases o' with o | o | ⟨o, _⟩ <;> first | omega | cases o
      have e3 : j' = j := by omega
      rw [e3, hj] at hj'
      cases hj'; rfl
    · rw [headD_at hx, lastD_at hz]
      have ⟨_, c2⟩ := (closed_iff hx hz).mp hc
      exact pair z x (getE_mem hz) (getE_mem hx) (beside_sym c2)
/-! ### lists of them -/
def tot (wt : Ln → Int) (S : List Ln) (k : Ln → Bool) : Int := ((S.filter k).map wt).sum
theorem tot_congr {wt wt' : Ln → Int} {S : List Ln} {k k' : Ln → Bool} (h : ∀ l, l ∈ S → k l = k' l) (hw : ∀ l, l ∈ S → wt l = wt' l) : tot wt S k = tot wt' S k' := by
  unfold tot
  rw [List.filter_congr h]
  exact congrArg _ (List.map_congr_left fun l hl => hw l (List.mem_filter.mp hl).1)
/-- L tells all that may be kept -/
structure Rep (S : List Ln) (f : Ln → Option Bool) (L : List (Ln → Bool)) : Prop where
  ok : ∀ k, k ∈ L → Fit f S k ∧ Val S k
  all : ∀ k, Fit f S k → Val S k → ∃ k', k' ∈ L ∧ ∀ l, l ∈ S → k' l = k l
def Can (S : List Ln) (f : Ln → Option Bool) : Prop := ∃ k, Fit f S k ∧ Val S k
structure Best (wt : Ln → Int) (S : List Ln) (f : Ln → Option Bool) (b : Int) : Prop where
  at_ : ∃ k, Fit f S k ∧ Val S k ∧ tot wt S k = b
  le : ∀ k, Fit f S k → Val S k → tot wt S k ≤ b
theorem Best.eq {wt : Ln → Int} {S : List Ln} {f : Ln → Option Bool} {b c : Int} (h : Best wt S f b) (g : Best wt S f c) : b = c := by
  obtain ⟨k, k1, k2, k3⟩ := h.at_
  obtain ⟨m, m1, m2, m3⟩ := g.at_
  have a1 := h.le m m1 m2
  have a2 := g.le k k1 k2
  omega
theorem Rep.can {S : List Ln} {f : Ln → Option Bool} {L : List (Ln → Bool)} (r : Rep S f L) : L ≠ [] ↔ Can S f := by
  constructor
  · intro h
    cases L with
    | nil => exact absurd rfl h
    | cons k L => exact ⟨k, r.ok k List.mem_cons_self⟩
  · rintro ⟨k, h1, h2⟩ e
    obtain ⟨k', h, _⟩ := r.all k h1 h2
    rw [e] at h
    cases h
theorem Rep.best {S : List Ln} {f : Ln → Option Bool} {L : List (Ln → Bool)} (r : Rep S f L) (wt : Ln → Int) (h : L ≠ []) : Best wt S f (mxI (L.map (tot wt S))) := by
  refine ⟨?_, fun k h1 h2 => ?_⟩
  · have : L.map (tot wt S) ≠ [] := fun e => h (List.map_eq_nil_iff.mp e)
    obtain ⟨k, hk, e⟩ := List.mem_map.mp (mxI_mem this)
    exact ⟨k, (r.ok k hk).1, (r.ok k hk).2, e⟩
  · obtain ⟨k', hk, e⟩ := r.all k h1 h2
    rw [tot_congr (fun l hl => (e l hl).symm) (fun l _ => rfl)]
    exact mxI_ge _ (List.mem_map.mpr ⟨k', hk, rfl⟩)
theorem fit_no {S : List Ln} {k : Ln → Bool} : Fit nofix S k := fun l _ => rfl
theorem fit_one {S : List Ln} {k : Ln → Bool} {l : Ln} {b : Bool} (hl : l ∈ S) : Fit (onefix l b) S k ↔ k l = b := by
  constructor
  · intro h
    have := h l hl
    unfold onefix at this
    rw [if_pos rfl] at this
    exact this.symm
  · intro h x hx
    unfold onefix
    by_cases c : l = x
    · rw [if_pos c, ← c, h]; rfl
    · rw [if_neg c]; rfl
theorem Rep.fix {S : List Ln} {L : List (Ln → Bool)} (r : Rep S nofix L) {l : Ln} (hl : l ∈ S) (b : Bool) : Rep S (onefix l b) (L.filter fun k => decide (k l = b)) := by
  refine ⟨fun k hk => ?_, fun k h1 h2 => ?_⟩
  · obtain ⟨a, c⟩ := List.mem_filter.mp hk
    exact ⟨(fit_one hl).mpr (of_decide_eq_true c), (r.ok k a).2⟩
  · obtain ⟨k', a, e⟩ := r.all k fit_no h2
    exact ⟨k', List.mem_filter.mpr ⟨a, decide_eq_true ((e l hl).trans ((fit_one hl).mp h1))⟩, e⟩
/-- the settings of a row -/
theorem rep_row {ls row : List Ln} (D : Deg ls) (r : RowOk ls row) (f : Ln → Option Bool) : Rep row f ((settingsOf f row).map (kOf row)) := by
  refine ⟨fun k hk => ?_, fun k h1 h2 => ?_⟩
  · obtain ⟨s, hs, rfl⟩ := List.mem_map.mp hk
    have e := map_kOf r.nd (sets_len r.ne hs)
    rw [← e] at hs
    obtain ⟨a, b⟩ := (sets_iff r.ne _).mp hs
    exact ⟨a, (loc_val D r).mp b⟩
  · have hs := (sets_iff (f := f) r.ne k).mpr ⟨h1, (loc_val D r).mpr h2⟩
    refine ⟨_, List.mem_map.mpr ⟨_, hs, rfl⟩, fun l hl => ?_⟩
    have e := map_kOf r.nd (sets_len r.ne hs)
    obtain ⟨i, hi⟩ := List.mem_iff_getElem?.mp hl
    have := congrArg (fun x => x[i]?) e
    simp only [List.getElem?_map, hi, Option.map_some] at this
    exact Option.some.inj this
theorem sums_row {row : List Ln} (ne : row ≠ []) (nd : row.Nodup) (kn : Ln → Option Int) (f : Ln → Option Bool) : sumsIn kn f row = ((settingsOf f row).map (kOf row)).map (tot (fun l => (kn l).getD 0) row) := by
  unfold sumsIn
  rw [List.map_map]
  refine List.map_congr_left fun s hs => ?_
  have e := map_kOf nd (sets_len ne hs)
  show _ = tot _ row (kOf row s)
  conv => lhs; rw [← e]
  unfold tot
  have gen : ∀ (k : Ln → Bool) (xs : List Ln), ((xs.zip (xs.map k)).filter fun p => p.2).map (fun p => (kn p.1).getD 0) = (xs.filter k).map fun l => (kn l).getD 0 := by
    intro k xs
    induction xs with
    | nil => rfl
    | cons x xs ih =>
      rw [List.map_cons, List.zip_cons_cons, List.filter_cons, List.filter_cons]
      cases h : k x
      · simp only [Bool.false_eq_true, ↓reduceIte]
        exact ih
      · simp only [↓reduceIte, List.map_cons]
        rw [ih]
  rw [gen]
theorem row_best {ls row : List Ln} (D : Deg ls) (r : RowOk ls row) (kn : Ln → Option Int) (f : Ln → Option Bool) (h : settingsOf f row ≠ []) : Best (fun l => (kn l).getD 0) row f (mxI (sumsIn kn f row)) := by
  rw [sums_row r.ne r.nd]
  exact (rep_row D r f).best _ fun e => h (List.map_eq_nil_iff.mp e)
theorem row_can {ls row : List Ln} (D : Deg ls) (r : RowOk ls row) (f : Ln → Option Bool) : settingsOf f row ≠ [] ↔ Can row f := by
  rw [← (rep_row D r f).can]
  exact ⟨fun h e => h (List.map_eq_nil_iff.mp e), fun h e => h (by rw [e]; rfl)⟩
/-! ### all rows together -/
theorem Val.part {ls : List Ln} {zz : List (List Ln)} {k : Ln → Bool} (p : PartR ls zz) : Val ls k ↔ ∀ r, r ∈ zz → Val r k := by
  have near : ∀ {r : List Ln} {l m : Ln}, r ∈ zz → l ∈ r → m ∈ ls → (m.1 = l.1 ∨ m.2 = l.2) → m ∈ r := fun {r l m} hr hl hm h => by
    by_cases c : m = l
    · rw [c]; exact hl
    · exact (p.ok r hr).cl hl hm (beside_iff.mpr ⟨c, h⟩)
  constructor
  · intro v r hr
    have sub := (p.ok r hr).sub
    refine ⟨fun l hl => ?_, fun l m hl hm => v.u l m (sub l hl) (sub m hm), fun l hl => ?_⟩
    · obtain ⟨m, a, b, c⟩ := v.c l (sub l hl)
      exact ⟨m, near hr hl a (.inr b), b, c⟩
    · obtain ⟨m, a, b, c⟩ := v.s l (sub l hl)
      exact ⟨m, near hr hl a (.inl b), b, c⟩
  · intro v
    have find : ∀ l, l ∈ ls → ∃ r, r ∈ zz ∧ l ∈ r := fun l hl => by
      obtain ⟨r, a, b⟩ := List.mem_flatten.mp ((p.all l).mpr hl)
      exact ⟨r, a, b⟩
    refine ⟨fun l hl => ?_, fun l m hl hm e h1 h2 => ?_, fun l hl => ?_⟩
    · obtain ⟨r, hr, h⟩ := find l hl
      obtain ⟨m, a, b, c⟩ := (v r hr).c l h
      exact ⟨m, (p.ok r hr).sub m a, b, c⟩
    · obtain ⟨r, hr, h⟩ := find l hl
      exact (v r hr).u l m h (near hr h hm (.inr e.symm)) e h1 h2
    · obtain ⟨r, hr, h⟩ := find l hl
      obtain ⟨m, a, b, c⟩ := (v r hr).s l h
      exact ⟨m, (p.ok r hr).sub m a, b, c⟩
theorem Fit.part {ls : List Ln} {zz : List (List Ln)} {f : Ln → Option Bool} {k : Ln → Bool} (p : PartR ls zz) : Fit f ls k ↔ ∀ r, r ∈ zz → Fit f r k := by
  constructor
  · intro h r hr l hl
    exact h l ((p.ok r hr).sub l hl)
  · intro h l hl
    obtain ⟨r, a, b⟩ := List.mem_flatten.mp ((p.all l).mpr hl)
    exact h r a l b
theorem isum_perm {xs ys : List Int} (h : xs.Perm ys) : xs.sum = ys.sum := by
  induction h with
  | nil => rfl
  | cons x _ ih => rw [List.sum_cons, List.sum_cons, ih]
  | swap x y l => rw [List.sum_cons, List.sum_cons, List.sum_cons, List.sum_cons]; omega
  | trans _ _ a b => exact a.trans b
theorem tot_perm {wt : Ln → Int} {S T : List Ln} (h : S.Perm T) (k : Ln → Bool) : tot wt S k = tot wt T k := isum_perm ((h.filter k).map wt)
theorem tot_append {wt : Ln → Int} {k : Ln → Bool} (S T : List Ln) : tot wt (S ++ T) k = tot wt S k + tot wt T k := by
  unfold tot
  rw [List.filter_append, List.map_append, isum_append]
theorem tot_flat {wt : Ln → Int} {k : Ln → Bool} : ∀ zz : List (List Ln), tot wt zz.flatten k = (zz.map fun r => tot wt r k).sum
  | [] => rfl
  | r :: zz => by rw [List.flatten_cons, tot_append, tot_flat zz, List.map_cons, List.sum_cons]
theorem PartR.perm {ls : List Ln} {zz : List (List Ln)} (p : PartR ls zz) (nd : ls.Nodup) : ls.Perm zz.flatten := (List.perm_ext_iff_of_nodup nd p.nd).mpr fun l => (p.all l).symm
theorem tot_part {wt : Ln → Int} {ls : List Ln} {zz : List (List Ln)} (p : PartR ls zz) (nd : ls.Nodup) (k : Ln → Bool) : tot wt ls k = (zz.map fun r => tot wt r k).sum := by rw [tot_perm (p.perm nd), tot_flat]
theorem flat_one : ∀ {zz : List (List Ln)} {r r' : List Ln} {l : Ln}, zz.flatten.Nodup → r ∈ zz → r' ∈ zz → l ∈ r → l ∈ r' → r = r'
  | [], _, _, _, _, h, _, _, _ => absurd h List.not_mem_nil
  | q :: zz, r, r', l, nd, hr, hr', hl, hl' => by
    rw [List.flatten_cons] at nd
    have ⟨a, b, c⟩ := List.nodup_append.mp nd
    rcases List.mem_cons.mp hr with e | h1
    · rcases List.mem_cons.mp hr' with e' | h2
      · rw [e, e']
      · subst e
        exact absurd rfl (c l hl l (List.mem_flatten.mpr ⟨r', h2, hl'⟩))
    · rcases List.mem_cons.mp hr' with e' | h2
      · subst e'
        exact absurd rfl (c l hl' l (List.mem_flatten.mpr ⟨r, h1, hl⟩))
      · exact flat_one b h1 h2 hl hl'
/-- the truths that the rows tell, together -/
theorem glue {ls : List Ln} {zz : List (List Ln)} (p : PartR ls zz) (kk : List Ln → Ln → Bool) : ∃ k : Ln → Bool, ∀ r, r ∈ zz → ∀ l, l ∈ r → k l = kk r l := by
  refine ⟨fun l => match zz.find? fun r => inB l r with | some r => kk r l | none => true, fun r hr l hl => ?_⟩
  show (match zz.find? fun r => inB l r with | some r => kk r l | none => true) = _
  cases h : zz.find? fun r => inB l r with
  | none =>
    have := List.find?_eq_none.mp h r hr
    rw [inB_true.mpr hl] at this
    exact absurd rfl this
  | some q =>
    have a := List.mem_of_find?_eq_some h
    have b := List.find?_some h
    show kk q l = kk r l
    rw [flat_one p.nd a hr (inB_true.mp b) hl]
theorem can_part {ls : List Ln} {zz : List (List Ln)} {f : Ln → Option Bool} (p : PartR ls zz) : Can ls f ↔ ∀ r, r ∈ zz → Can r f := by
  constructor
  · rintro ⟨k, h1, h2⟩ r hr
    exact ⟨k, (Fit.part p).mp h1 r hr, (Val.part p).mp h2 r hr⟩
  · intro h
    have h' : ∀ r : List Ln, ∃ k : Ln → Bool, r ∈ zz → Fit f r k ∧ Val r k := fun r => by
      by_cases c : r ∈ zz
      · obtain ⟨k, a⟩ := h r c
        exact ⟨k, fun _ => a⟩
      · exact ⟨fun _ => true, fun z => absurd z c⟩
    obtain ⟨kk, hk⟩ := Classical.axiomOfChoice h'
    obtain ⟨k, e⟩ := glue p kk
    exact ⟨k, (Fit.part p).mpr fun r hr => (hk r hr).1.congr (e r hr), (Val.part p).mpr fun r hr => (hk r hr).2.congr (e r hr)⟩
theorem isum_le {α : Type} {f g : α → Int} : ∀ {xs : List α}, (∀ x, x ∈ xs → f x ≤ g x) → (xs.map f).sum ≤ (xs.map g).sum
  | [], _ => Int.le_refl _
  | x :: xs, h => by
    rw [List.map_cons, List.map_cons, List.sum_cons, List.sum_cons]
    have a := h x List.mem_cons_self
    have b := isum_le (xs := xs) fun y hy => h y (List.mem_cons_of_mem _ hy)
    omega
theorem best_part {wt : Ln → Int} {ls : List Ln} {zz : List (List Ln)} {f : Ln → Option Bool} (p : PartR ls zz) (nd : ls.Nodup) (b : List Ln → Int) (h : ∀ r, r ∈ zz → Best wt r f (b r)) : Best wt ls f (zz.map b).sum := by
  refine ⟨?_, fun k h1 h2 => ?_⟩
  · have h' : ∀ r : List Ln, ∃ k : Ln → Bool, r ∈ zz → Fit f r k ∧ Val r k ∧ tot wt r k = b r := fun r => by
      by_cases c : r ∈ zz
      · obtain ⟨k, a⟩ := (h r c).at_
        exact ⟨k, fun _ => a⟩
      · exact ⟨fun _ => true, fun z => absurd z c⟩
    obtain ⟨kk, hk⟩ := Classical.axiomOfChoice h'
    obtain ⟨k, e⟩ := glue p kk
    refine ⟨k, (Fit.part p).mpr fun r hr => (hk r hr).1.congr (e r hr), (Val.part p).mpr fun r hr => (hk r hr).2.1.congr (e r hr), ?_⟩
    rw [tot_part p nd]
    refine congrArg _ (List.map_congr_left fun r hr => ?_)
    rw [← (hk r hr).2.2]
    exact tot_congr (e r hr) fun _ _ => rfl
  · rw [tot_part p nd]
    exact isum_le fun r hr => (h r hr).le k ((Fit.part p).mp h1 r hr) ((Val.part p).mp h2 r hr)
/-! ### the numbers that the program tells -/
theorem prod_ne : ∀ (zz : List (List Ln)) (f : Ln → Option Bool) (a : Int), zz.foldl (fun a r => a * numberIn f r) a ≠ 0 ↔ a ≠ 0 ∧ ∀ r, r ∈ zz → numberIn f r ≠ 0
  | [], f, a => ⟨fun h => ⟨h, fun r hr => absurd hr List.not_mem_nil⟩, fun h => h.1⟩
  | r :: zz, f, a => by
    rw [List.foldl_cons, prod_ne zz f]
    constructor
    · rintro ⟨h1, h2⟩
      have h3 : a ≠ 0 ∧ numberIn f r ≠ 0 := ⟨fun z => h1 (by rw [z, Int.zero_mul]), fun z => h1 (by rw [z, Int.mul_zero])⟩
      refine ⟨h3.1, fun q hq => ?_⟩
      rcases List.mem_cons.mp hq with e | hq
      · rw [e]; exact h3.2
      · exact h2 q hq
    · rintro ⟨h1, h2⟩
      exact ⟨Int.mul_ne_zero h1 (h2 r List.mem_cons_self), fun q hq => h2 q (List.mem_cons_of_mem _ hq)⟩
theorem num_ne {f : Ln → Option Bool} {row : List Ln} (h : row ≠ []) : numberIn f row ≠ 0 ↔ settingsOf f row ≠ [] := by
  rw [number_len h]
  cases settingsOf f row with
  | nil => simp
  | cons s ss => simp; omega
theorem numWith_can {n : Net} {f : Ln → Option Bool} (D : Deg n.pairs) (p : PartR n.pairs n.zz) : numWith f n ≠ 0 ↔ Can n.pairs f := by
  unfold numWith
  rw [prod_ne, can_part p]
  constructor
  · rintro ⟨_, h⟩ r hr
    exact (row_can D (p.ok r hr) f).mp ((num_ne (p.ok r hr).ne).mp (h r hr))
  · intro h
    exact ⟨by decide, fun r hr => (num_ne (p.ok r hr).ne).mpr ((row_can D (p.ok r hr) f).mpr (h r hr))⟩
def wtOf (ls : List Ln) (ws : List Int) (l : Ln) : Int := (lkZ ls ws l).getD 0
theorem bestWith_best {n : Net} {f : Ln → Option Bool} (D : Deg n.pairs) (p : PartR n.pairs n.zz) (ws : List Int) (h : Can n.pairs f) : Best (wtOf n.pairs ws) n.pairs f (bestWith n ws f) := by
  refine best_part p D.nd _ fun r hr => ?_
  exact row_best D (p.ok r hr) _ f ((row_can D (p.ok r hr) f).mpr ((can_part p).mp h r hr))
/-- what a line is worth, by its own zigzag or by all -/
theorem worth_eq {n : Net} (D : Deg n.pairs) (p : PartR n.pairs n.zz) (ws : List Int) (l : Ln) : (¬ Can n.pairs (onefix l true) ∨ ¬ Can n.pairs (onefix l false) → worthOf n ws l = none) ∧ ∀ b c, Best (wtOf n.pairs ws) n.pairs (onefix l true) b → Best (wtOf n.pairs ws) n.pairs (onefix l false) c → worthOf n ws l = some (b - c) := by
  have can : ∀ {f b}, Best (wtOf n.pairs ws) n.pairs f b → Can n.pairs f := fun h => by
    obtain ⟨k, a, b, _⟩ := h.at_
    exact ⟨k, a, b⟩
  refine ⟨fun h => ?_, fun b c hb hc => ?_⟩
  · unfold worthOf
    rw [if_pos]
    rcases h with h | h
    · have : numWith (onefix l true) n = 0 := Decidable.byContradiction fun z => h ((numWith_can D p).mp z)
      rw [decide_eq_true this]; rfl
    · have : numWith (onefix l false) n = 0 := Decidable.byContradiction fun z => h ((numWith_can D p).mp z)
      rw [decide_eq_true this, Bool.or_true]
  · have h1 := (numWith_can D p).mpr (can hb)
    have h2 := (numWith_can D p).mpr (can hc)
    unfold worthOf
    rw [decide_eq_false h1, decide_eq_false h2]
    show some _ = _
    rw [(bestWith_best D p ws (can hb)).eq hb, (bestWith_best D p ws (can hc)).eq hc]
end K29
set_option Elab.async false
set_option linter.all false
set_option maxRecDepth 100000
/-! Plain: a small web's choices. -/
namespace K29
open PySem PySem.Spec PyProof.Rows L2 G PySem.W
theorem mem_lines {rows : List NRow} {l : Ln} : l ∈ linesOf rows ↔ ∃ r, r ∈ rows ∧ l.2 = r.1 ∧ l.1 ∈ r.2 := by
  constructor
  · exact lines_mem
  · rintro ⟨r, hr, e, h⟩
    exact List.mem_flatMap.mpr ⟨r, hr, List.mem_map.mpr ⟨l.1, h, Prod.ext rfl e.symm⟩⟩
theorem used_lines : ∀ rows : List NRow, usedOf rows = (linesOf rows).map (·.1)
  | [] => rfl
  | r :: rows => by
    show r.2 ++ usedOf rows = ((r.2.map fun s => (s, r.1)) ++ linesOf rows).map (·.1)
    rw [List.map_append, ← used_lines rows, List.map_map]
    congr 1
    exact (List.map_id _).symm
theorem row_same {rows : List NRow} (ro : RowsOk rows) {r q : NRow} (hr : r ∈ rows) (hq : q ∈ rows) (e : r.1 = q.1) : r = q := by
  obtain ⟨i, hi⟩ := List.mem_iff_getElem?.mp hr
  obtain ⟨j, hj⟩ := List.mem_iff_getElem?.mp hq
  have a : (rows.map (·.1))[i]? = some r.1 := by rw [List.getElem?_map, hi]; rfl
  have b : (rows.map (·.1))[j]? = some r.1 := by rw [List.getElem?_map, hj, e]; rfl
  have := nd_inj ro.nd a b
  rw [this, hj] at hi
  cases hi; rfl
theorem RowsOk.snd {rows : List NRow} (ro : RowsOk rows) {r : NRow} (hr : r ∈ rows) : r.2.Nodup := by
  obtain ⟨i, hi⟩ := List.mem_iff_getElem?.mp hr
  by_cases c : 0 < i
  · exact (ro.src i r hi c).2.2.1
  · have c : i = 0 := by omega
    subst c
    rw [ro.hd r hi]
    exact List.nodup_nil
theorem lines_nd {rows : List NRow} (ro : RowsOk rows) : (linesOf rows).Nodup := by
  have gen : ∀ rs : List NRow, (∀ r, r ∈ rs → r.2.Nodup) → (rs.map (·.1)).Nodup → (linesOf rs).Nodup := by
    intro rs
    induction rs with
    | nil => intro _ _; exact List.nodup_nil
    | cons r rs ih =>
      intro h nd
      have nd := List.nodup_cons.mp nd
      show ((r.2.map fun s => (s, r.1)) ++ linesOf rs).Nodup
      refine List.nodup_append.mpr ⟨?_, ih (fun q hq => h q (List.mem_cons_of_mem _ hq)) nd.2, fun a ha b hb e => nd.1 ?_⟩
      · refine List.pairwise_map.mpr ((h r List.mem_cons_self).imp fun ne e => ne (Prod.mk.inj e).1)
      · obtain ⟨s, _, rfl⟩ := List.mem_map.mp ha
        obtain ⟨q, hq, e1, _⟩ := mem_lines.mp hb
        rw [← e] at e1
        exact List.mem_map.mpr ⟨q, hq, e1.symm⟩
  exact gen rows (fun r hr => ro.snd hr) ro.nd
theorem three_two {α : Type} [DecidableEq α] {a b d : α} {xs : List α} (h : xs.length ≤ 2) (ha : a ∈ xs) (hb : b ∈ xs) (hd : d ∈ xs) : a = b ∨ a = d ∨ b = d := by
  by_cases c1 : a = b
  · exact .inl c1
  · by_cases c2 : a = d
    · exact .inr (.inl c2)
    · by_cases c3 : b = d
      · exact .inr (.inr c3)
      · have nd : [a, b, d].Nodup := by simp [c1, c2, c3]
        have := sub_len (xs := [a, b, d]) (ys := xs) nd fun x hx => by
          rcases List.mem_cons.mp hx with e | hx
          · rw [e]; exact ha
          · rcases List.mem_cons.mp hx with e | hx
            · rw [e]; exact hb
            · rw [List.mem_singleton.mp hx]; exact hd
        simp at this
        omega
theorem rows_deg {rows : List NRow} (ro : RowsOk rows) : Deg (linesOf rows) where
  nd := lines_nd ro
  s := fun a b d ha hb hd e1 e2 => by
    have u := ro.use a.1
    rw [used_lines, List.countP_map, List.countP_eq_length_filter] at u
    refine three_two u (List.mem_filter.mpr ⟨ha, ?_⟩) (List.mem_filter.mpr ⟨hb, ?_⟩) (List.mem_filter.mpr ⟨hd, ?_⟩)
    · exact decide_eq_true rfl
    · exact decide_eq_true e1.symm
    · exact decide_eq_true e2.symm
  c := fun a b d ha hb hd e1 e2 => by
    obtain ⟨r, hr, a1, a2⟩ := mem_lines.mp ha
    obtain ⟨q, hq, b1, b2⟩ := mem_lines.mp hb
    obtain ⟨t, ht, d1, d2⟩ := mem_lines.mp hd
    have e3 := row_same ro hr hq (by rw [← a1, e1, b1])
    have e4 := row_same ro hr ht (by rw [← a1, e2, d1])
    rw [← e3] at b2
    rw [← e4] at d2
    rcases three_two (ro.two r hr) a2 b2 d2 with e | e | e
    · exact .inl (Prod.ext e e1)
    · exact .inr (.inl (Prod.ext e e2))
    · exact .inr (.inr (Prod.ext e (e1.symm.trans e2)))
theorem src_head {rows : List NRow} (ro : RowsOk rows) {l : Ln} (h : l ∈ linesOf rows) : l.1 ∈ rows.map (·.1) ∧ l.2 ∈ rows.map (·.1) := by
  obtain ⟨r, hr, e, hs⟩ := mem_lines.mp h
  refine ⟨?_, by rw [e]; exact List.mem_map.mpr ⟨r, hr, rfl⟩⟩
  obtain ⟨i, hi⟩ := List.mem_iff_getElem?.mp hr
  by_cases c : 0 < i
  · obtain ⟨q, hq, e⟩ := List.mem_map.mp ((ro.src i r hi c).2.2.2 l.1 hs)
    exact List.mem_map.mpr ⟨q, List.mem_of_mem_take hq, e⟩
  · have c : i = 0 := by omega
    subst c
    rw [ro.hd r hi] at hs
    cases hs
theorem part_len {ls : List Ln} {zz : List (List Ln)} (D : Deg ls) (p : PartR ls zz) {r : List Ln} (hr : r ∈ zz) : r.length ≤ ls.length := sub_len (p.ok r hr).nd (p.ok r hr).sub
theorem rowsStep_num (ls : List Ln) : ∀ (xs : List Ln) (s : List (List Ln) × List Ln), (xs.foldl (rowsStep ls) s).1.length ≤ s.1.length + xs.length
  | [], s => Nat.le_refl _
  | x :: xs, s => by
    rw [List.foldl_cons]
    have a := rowsStep_num ls xs (rowsStep ls s x)
    have b : (rowsStep ls s x).1.length ≤ s.1.length + 1 := by
      unfold rowsStep
      split
      · omega
      · rw [List.length_append]; exact Nat.le_refl _
    rw [List.length_cons]
    omega
theorem net_ok {rows : List NRow} (ro : RowsOk rows) : NetOk (netOf rows) := by
  have D := rows_deg ro
  have p := rowsIn_ok D
  have lz : (linesOf rows).length ≤ 80 := by rw [lines_len]; exact ro.few
  have few : ∀ r, r ∈ rowsIn (linesOf rows) → ∀ (f : Ln → Option Bool), ∀ j, (((links r).take j).foldl (setStep f) (sets0 f r)).length ≤ 1001 := fun r hr f => row_few D (p.ok r hr) (by have := part_len D p hr; omega) f
  refine ⟨D.nd, by show (linesOf rows).length ≤ 1000; omega, ?_, fun r hr => (p.ok r hr).ne, fun r hr => ?_, fun r hr => (p.ok r hr).sub, fun r hr f j => ?_, fun r hr f => ?_, fun f h r hr => ?_, fun l hl => src_head ro hl⟩
  · have := rowsStep_num (linesOf rows) (linesOf rows) ([], [])
    show (rowsIn (linesOf rows)).length ≤ 1000
    unfold rowsIn
    simp at this
    omega
  · have := part_len D p hr
    omega
  · have := few r hr f j
    omega
  · have a := few r hr f (links r).length
    rw [List.take_length] at a
    rw [number_len (p.ok r hr).ne]
    have b : (settingsOf f r).length ≤ ((links r).foldl (setStep f) (sets0 f r)).length := List.length_filter_le _ _
    omega
  · have := (prod_ne _ f 1).mp h
    exact (num_ne (p.ok r hr).ne).mp (this.2 r hr)
/-! ### choices -/
/-- the lines that a choice keeps -/
def kC (rows : List NRow) (c : List Str) (l : Ln) : Bool := decide (c.getD (idxB l.2 (headsOf rows)) Str.empty = l.1)
theorem mem_tupStep {found : List (List Str)} {r : NRow} {c : List Str} : c ∈ tupStep found r ↔ ∃ p s, p ∈ found ∧ s ∈ r.2 ∧ c = p ++ [s] := by
  unfold tupStep
  rw [List.mem_flatMap]
  constructor
  · rintro ⟨p, hp, h⟩
    obtain ⟨s, hs, e⟩ := List.mem_map.mp h
    exact ⟨p, s, hp, hs, e.symm⟩
  · rintro ⟨p, s, hp, hs, e⟩
    exact ⟨p, hp, List.mem_map.mpr ⟨s, hs, e.symm⟩⟩
/-- a tuple of a source for each -/
inductive Picks2 : List NRow → List Str → Prop
  | nil : Picks2 [] []
  | cons {r : NRow} {rs : List NRow} {s : Str} {c : List Str} (h : s ∈ r.2) (t : Picks2 rs c) : Picks2 (r :: rs) (s :: c)
theorem mem_tupFold : ∀ {rs : List NRow} {found : List (List Str)} {c : List Str}, c ∈ rs.foldl tupStep found ↔ ∃ p t, p ∈ found ∧ Picks2 rs t ∧ c = p ++ t
  | [], found, c => by
    constructor
    · intro h; exact ⟨c, [], h, .nil, (List.append_nil c).symm⟩
    · rintro ⟨p, t, h, q, e⟩
      cases q
      rw [e, List.append_nil]; exact h
  | r :: rs, found, c => by
    rw [List.foldl_cons, mem_tupFold]
    constructor
    · rintro ⟨p, t, h, q, e⟩
      obtain ⟨p', s, hp, hs, e1⟩ := mem_tupStep.mp h
      exact ⟨p', s :: t, hp, .cons hs q, by rw [e, e1, List.append_assoc]; rfl⟩
    · rintro ⟨p, t, h, q, e⟩
      cases q with
      | cons hs q => exact ⟨_, _, mem_tupStep.mpr ⟨p, _, h, hs, rfl⟩, q, by rw [e, List.append_assoc]; rfl⟩
theorem Picks2.at_ : ∀ {rs : List NRow} {c : List Str}, Picks2 rs c → ∀ {i : Nat} {r : NRow}, rs[i]? = some r → ∃ s, c[i]? = some s ∧ s ∈ r.2
  | _, _, .nil, _, _, h => by cases h
  | _, _, .cons hs q, 0, _, h => by cases h; exact ⟨_, rfl, hs⟩
  | _, _, .cons hs q, i + 1, _, h => Picks2.at_ q (by simpa using h)
theorem Picks2.len : ∀ {rs : List NRow} {c : List Str}, Picks2 rs c → c.length = rs.length
  | _, _, .nil => rfl
  | _, _, .cons _ q => by rw [List.length_cons, List.length_cons, q.len]
theorem Picks2.map (g : NRow → Str) : ∀ {rs : List NRow}, (∀ r, r ∈ rs → g r ∈ r.2) → Picks2 rs (rs.map g)
  | [], _ => .nil
  | r :: rs, h => .cons (h r List.mem_cons_self) (Picks2.map g fun q hq => h q (List.mem_cons_of_mem _ hq))
theorem mem_tuples {rows : List NRow} {c : List Str} : c ∈ tuplesOf rows ↔ Picks2 (rows.drop 1) c := by
  unfold tuplesOf
  rw [mem_tupFold]
  constructor
  · rintro ⟨p, t, h, q, e⟩
    rw [List.mem_singleton.mp h] at e
    rw [e]; exact q
  · intro q; exact ⟨[], c, List.mem_singleton.mpr rfl, q, rfl⟩
theorem mem_choices {rows : List NRow} {c : List Str} : c ∈ choicesOf rows ↔ Picks2 (rows.drop 1) c ∧ ∀ x, x ∈ innerOf rows → x ∈ c := by
  unfold choicesOf
  rw [List.mem_filter, mem_tuples]
  refine and_congr Iff.rfl ?_
  rw [List.all_map, List.all_eq_true]
  exact ⟨fun h x hx => inB_true.mp (h x hx), fun h x hx => inB_true.mpr (h x hx)⟩
theorem mem_inner {rows : List NRow} {x : Str} : x ∈ innerOf rows ↔ x ∈ rows.map (·.1) ∧ x ∈ usedOf rows := by
  unfold innerOf
  constructor
  · intro h
    obtain ⟨r, hr, e⟩ := List.mem_map.mp h
    obtain ⟨a, b⟩ := List.mem_filter.mp hr
    rw [← e]
    exact ⟨List.mem_map.mpr ⟨r, a, rfl⟩, inB_true.mp b⟩
  · rintro ⟨h1, h2⟩
    obtain ⟨r, hr, e⟩ := List.mem_map.mp h1
    exact List.mem_map.mpr ⟨r, List.mem_filter.mpr ⟨hr, inB_true.mpr (by rw [e]; exact h2)⟩, e⟩
/-- where a line's copy stands -/
theorem idxB_nd' {α : Type} [DecidableEq α] {row : List α} (nd : row.Nodup) {i : Nat} {a : α} (h : row[i]? = some a) : idxB a row = i := by
  have hm : a ∈ row := getE_mem h
  have hl := idxB_lt hm
  letI : BEq α := instBEqOfDecidableEq
  have e : row[idxB a row] = a := List.getElem_idxOf hl
  exact nd_inj nd ((List.getElem?_eq_getElem hl).trans (congrArg some e)) h
theorem heads_nd {rows : List NRow} (ro : RowsOk rows) : (headsOf rows).Nodup := by
  unfold headsOf
  rw [List.map_drop]
  exact List.Nodup.sublist (List.drop_sublist _ _) ro.nd
theorem line_at {rows : List NRow} (ro : RowsOk rows) {l : Ln} (h : l ∈ linesOf rows) : ∃ i r, (rows.drop 1)[i]? = some r ∧ l.2 = r.1 ∧ l.1 ∈ r.2 ∧ idxB l.2 (headsOf rows) = i := by
  obtain ⟨r, hr, e, hs⟩ := mem_lines.mp h
  obtain ⟨i, hi⟩ := List.mem_iff_getElem?.mp hr
  have c : 0 < i := by
    by_cases c : 0 < i
    · exact c
    · have c : i = 0 := by omega
      subst c
      rw [ro.hd r hi] at hs
      cases hs
  have hd : (rows.drop 1)[i - 1]? = some r := by
    rw [List.getElem?_drop, show 1 + (i - 1) = i by omega]
    exact hi
  refine ⟨i - 1, r, hd, e, hs, ?_⟩
  refine idxB_nd' (heads_nd ro) ?_
  unfold headsOf
  rw [List.getElem?_map, hd, e]
  rfl
theorem drop_line {rows : List NRow} {r : NRow} {i : Nat} {s : Str} (h : (rows.drop 1)[i]? = some r) (hs : s ∈ r.2) : (s, r.1) ∈ linesOf rows := mem_lines.mpr ⟨r, List.mem_of_mem_drop (List.mem_of_getElem? h), rfl, hs⟩
theorem kC_at {rows : List NRow} (ro : RowsOk rows) {c : List Str} {i : Nat} {r : NRow} {s t : Str} (h : (rows.drop 1)[i]? = some r) (hc : c[i]? = some t) : kC rows c (s, r.1) = decide (t = s) := by
  unfold kC
  have : idxB r.1 (headsOf rows) = i := idxB_nd' (heads_nd ro) (by unfold headsOf; rw [List.getElem?_map, h]; rfl)
  show decide (c.getD (idxB r.1 (headsOf rows)) Str.empty = s) = _
  rw [this, List.getD_eq_getElem?_getD, hc]
  rfl
theorem choice_val {rows : List NRow} (ro : RowsOk rows) {c : List Str} (hc : c ∈ choicesOf rows) : Val (linesOf rows) (kC rows c) := by
  obtain ⟨pk, inn⟩ := mem_choices.mp hc
  refine ⟨fun l hl => ?_, fun l m hl hm e h1 h2 => ?_, fun l hl => ?_⟩
  · obtain ⟨i, r, hr, e, hs, _⟩ := line_at ro hl
    obtain ⟨t, ht, m⟩ := pk.at_ hr
    exact ⟨(t, r.1), drop_line hr m, e.symm, by rw [kC_at ro hr ht]; exact decide_eq_true rfl⟩
  · have a := of_decide_eq_true h1
    have b := of_decide_eq_true h2
    rw [e, b] at a
    exact Prod.ext a.symm e
  · have hx := (src_head ro hl).1
    have hi : l.1 ∈ innerOf rows := mem_inner.mpr ⟨hx, by rw [used_lines]; exact List.mem_map.mpr ⟨l, hl, rfl⟩⟩
    obtain ⟨j, hj⟩ := List.mem_iff_getElem?.mp (inn _ hi)
    have jl := getE_lt hj
    rw [pk.len] at jl
    have hr : (rows.drop 1)[j]? = some (rows.drop 1)[j] := List.getElem?_eq_getElem jl
    obtain ⟨t, ht, m⟩ := pk.at_ hr
    rw [hj] at ht
    cases ht
    exact ⟨(l.1, _), drop_line hr m, rfl, by rw [kC_at ro hr hj]; exact decide_eq_true rfl⟩
theorem rep_choices {rows : List NRow} (ro : RowsOk rows) : Rep (linesOf rows) nofix ((choicesOf rows).map (kC rows)) := by
  refine ⟨fun k hk => ?_, fun k _ v => ?_⟩
  · obtain ⟨c, hc, rfl⟩ := List.mem_map.mp hk
    exact ⟨fit_no, choice_val ro hc⟩
  · let g : NRow → Str := fun r => (r.2.find? fun s => k (s, r.1)).getD Str.empty
    have hg : ∀ r, r ∈ rows.drop 1 → g r ∈ r.2 ∧ k (g r, r.1) = true := by
      intro r hr
      obtain ⟨i, hi⟩ := List.mem_iff_getElem?.mp hr
      have hi' : rows[i + 1]? = some r := by
        rw [List.getElem?_drop, Nat.add_comm] at hi
        exact hi
      have p1 := (ro.src (i + 1) r hi' (Nat.succ_pos _)).1
      have hl : (r.2[0], r.1) ∈ linesOf rows := drop_line hi (List.getElem_mem (by omega))
      obtain ⟨m, hm, em, km⟩ := v.c _ hl
      obtain ⟨q, hq, e1, e2⟩ := mem_lines.mp hm
      have em : m.2 = r.1 := em
      have : q = r := row_same ro hq (List.mem_of_mem_drop hr) (by rw [← e1, em])
      rw [this] at e2
      have : ∃ s, r.2.find? (fun s => k (s, r.1)) = some s := by
        cases h : r.2.find? fun s => k (s, r.1) with
        | some s => exact ⟨s, rfl⟩
        | none =>
          have := List.find?_eq_none.mp h m.1 e2
          rw [← em] at this
          exact absurd km this
      obtain ⟨s, hs⟩ := this
      have e : g r = s := by show (List.find? _ _).getD _ = _; rw [hs]; rfl
      rw [e]
      have ks := List.find?_some hs
      exact ⟨List.mem_of_find?_eq_some hs, ks⟩
    have pk := Picks2.map g fun r hr => (hg r hr).1
    have same : ∀ l, l ∈ linesOf rows → kC rows ((rows.drop 1).map g) l = k l := by
      intro l hl
      obtain ⟨i, r, hr, e, hs, _⟩ := line_at ro hl
      have el : l = (l.1, r.1) := Prod.ext rfl e
      have hg := hg r (List.mem_of_getElem? hr)
      rw [el, kC_at ro hr (t := g r) (by rw [List.getElem?_map, hr]; rfl)]
      cases h : k (l.1, r.1) with
      | true =>
        have := v.u _ _ (drop_line hr hg.1) (drop_line hr hs) rfl hg.2 h
        exact decide_eq_true (Prod.mk.inj this).1
      | false =>
        refine decide_eq_false fun z => ?_
        rw [← z, hg.2] at h
        cases h
    refine ⟨_, List.mem_map.mpr ⟨(rows.drop 1).map g, mem_choices.mpr ⟨pk, fun x hx => ?_⟩, rfl⟩, same⟩
    have hu := (mem_inner.mp hx).2
    rw [used_lines] at hu
    obtain ⟨l, hl, el⟩ := List.mem_map.mp hu
    obtain ⟨m, hm, em, km⟩ := v.s l hl
    obtain ⟨i, r, hr, e, hs, _⟩ := line_at ro hm
    have hg := hg r (List.mem_of_getElem? hr)
    have : m = (g r, r.1) := v.u _ _ hm (drop_line hr hg.1) e km hg.2
    refine List.mem_map.mpr ⟨r, List.mem_of_getElem? hr, ?_⟩
    rw [← el, ← em, this]
/-! ### tables, totals, what is due -/
theorem rowC_eq (rows : List NRow) (c : List Str) : rowC c (spotsOf rows) = (linesOf rows).map (kC rows c) := by
  unfold rowC spotsOf
  rw [List.map_map]
  rfl
theorem total_eq (k : Ln → Bool) : ∀ (ls : List Ln) (ws : List Int), ls.Nodup → ws.length = ls.length → totalOf ws (ls.map k) = tot (wtOf ls ws) ls k
  | [], [], _, _ => rfl
  | [], _ :: _, _, h => by cases h
  | _ :: _, [], _, h => by cases h
  | l :: ls, w :: ws, nd, h => by
    have nd := List.nodup_cons.mp nd
    have ih := total_eq k ls ws nd.2 (by simpa using h)
    unfold totalOf tot at ih ⊢
    have far : ((ls.filter k).map (wtOf (l :: ls) (w :: ws))) = (ls.filter k).map (wtOf ls ws) := by
      refine List.map_congr_left fun x hx => ?_
      have hx := (List.mem_filter.mp hx).1
      have ne : ¬ l = x := fun e => nd.1 (by rw [e]; exact hx)
      show (lkZ (l :: ls) (w :: ws) x).getD 0 = _
      rw [lkZ, if_neg ne]
      rfl
    have near : wtOf (l :: ls) (w :: ws) l = w := by
      show (lkZ (l :: ls) (w :: ws) l).getD 0 = _
      rw [lkZ, if_pos rfl]
      rfl
    rw [List.map_cons, List.zip_cons_cons, List.filter_cons, List.filter_cons]
    cases hk : k l
    · simp only [Bool.false_eq_true, ↓reduceIte]
      rw [far]
      exact ih
    · simp only [↓reduceIte, List.map_cons, List.sum_cons]
      rw [far, near, ih]
theorem with_eq {α : Type} (t : α → Int) (g : α → Bool) : ∀ L : List α, withOf (L.map t) (L.map g) = (L.filter g).map t ∧ woOf (L.map t) (L.map g) = (L.filter fun x => !g x).map t
  | [] => ⟨rfl, rfl⟩
  | x :: L => by
    obtain ⟨a, b⟩ := with_eq t g L
    unfold withOf woOf at *
    rw [List.map_cons, List.map_cons, List.zip_cons_cons, List.filter_cons, List.filter_cons, List.filter_cons, List.filter_cons]
    cases h : g x
    · simp only [Bool.false_eq_true, ↓reduceIte, Bool.not_false, List.map_cons]
      exact ⟨a, by rw [b]⟩
    · simp only [Bool.false_eq_true, ↓reduceIte, Bool.not_true, List.map_cons]
      exact ⟨by rw [a], b⟩
theorem due_eq {S : List Ln} {L : List (Ln → Bool)} (r : Rep S nofix L) {l : Ln} (hl : l ∈ S) (wt : Ln → Int) :
    (¬ Can S (onefix l true) ∨ ¬ Can S (onefix l false) → dueOf (L.map (tot wt S)) (L.map fun k => k l) = none) ∧ (Can S (onefix l true) → Can S (onefix l false) → ∃ b c, Best wt S (onefix l true) b ∧ Best wt S (onefix l false) c ∧ dueOf (L.map (tot wt S)) (L.map fun k => k l) = some (b - c)) := by
  obtain ⟨e1, e2⟩ := with_eq (tot wt S) (fun k : Ln → Bool => k l) L
  have f1 : (L.filter fun k => decide (k l = true)) = L.filter fun k => k l := List.filter_congr fun k _ => by cases k l <;> rfl
  have f2 : (L.filter fun k => decide (k l = false)) = L.filter fun k => !k l := List.filter_congr fun k _ => by cases k l <;> rfl
  have r1 := r.fix hl true
  have r2 := r.fix hl false
  rw [f1] at r1
  rw [f2] at r2
  have n1 : ∀ {M : List (Ln → Bool)}, M.map (tot wt S) = [] ↔ M = [] := fun {M} => List.map_eq_nil_iff
  unfold dueOf
  rw [e1, e2]
  refine ⟨fun h => if_pos ?_, fun h1 h2 => ?_⟩
  · rcases h with h | h
    · have : (L.filter fun k => k l) = [] := Decidable.byContradiction fun z => h (r1.can.mp z)
      rw [this]; rfl
    · have : (L.filter fun k => !k l) = [] := Decidable.byContradiction fun z => h (r2.can.mp z)
      rw [this]
      exact Bool.or_true _
  · have m1 := r1.can.mpr h1
    have m2 := r2.can.mpr h2
    refine ⟨_, _, r1.best wt m1, r2.best wt m2, ?_⟩
    rw [decide_eq_false fun z => m1 (n1.mp z), decide_eq_false fun z => m2 (n1.mp z)]
    rfl
/-- a small web's line -/
theorem small_worth {rows : List NRow} (ro : RowsOk rows) {ws : List Int} (hw : ws.length = (linesOf rows).length) {at_ : Nat} {l : Ln} (hl : (linesOf rows)[at_]? = some l) :
    dueOf ((tableOf rows (choicesOf rows)).map (totalOf ws)) ((tableOf rows (choicesOf rows)).map fun row => row.getD at_ false) = worthOf (netOf rows) ws l := by
  have D := rows_deg ro
  have p := rowsIn_ok D
  have r := rep_choices ro
  have e1 : (tableOf rows (choicesOf rows)).map (totalOf ws) = ((choicesOf rows).map (kC rows)).map (tot (wtOf (linesOf rows) ws) (linesOf rows)) := by
    unfold tableOf
    rw [List.map_map, List.map_map]
    refine List.map_congr_left fun c _ => ?_
    show totalOf ws (rowC c (spotsOf rows)) = _
    rw [rowC_eq, total_eq _ _ _ D.nd hw]
    rfl
  have e2 : (tableOf rows (choicesOf rows)).map (fun row => row.getD at_ false) = ((choicesOf rows).map (kC rows)).map fun k => k l := by
    unfold tableOf
    rw [List.map_map, List.map_map]
    refine List.map_congr_left fun c _ => ?_
    show (rowC c (spotsOf rows)).getD at_ false = kC rows c l
    rw [rowC_eq, List.getD_eq_getElem?_getD, List.getElem?_map, hl]
    rfl
  rw [e1, e2]
  have d := due_eq r (getE_mem hl) (wtOf (linesOf rows) ws)
  have w := worth_eq (n := netOf rows) D p ws l
  by_cases c1 : Can (linesOf rows) (onefix l true)
  · by_cases c2 : Can (linesOf rows) (onefix l false)
    · obtain ⟨b, c, hb, hc, e⟩ := d.2 c1 c2
      rw [e]
      exact (w.2 b c hb hc).symm
    · rw [d.1 (.inr c2)]
      exact (w.1 (.inr c2)).symm
  · rw [d.1 (.inl c1)]
    exact (w.1 (.inl c1)).symm
theorem small_none {rows : List NRow} (ro : RowsOk rows) : choicesOf rows = [] ↔ numWith nofix (netOf rows) = 0 := by
  have D := rows_deg ro
  have p := rowsIn_ok D
  have a := (rep_choices ro).can
  have b := numWith_can (n := netOf rows) (f := nofix) D p
  constructor
  · intro h
    refine Decidable.byContradiction fun z => a.mpr (b.mp z) ?_
    rw [h]; rfl
  · intro h
    refine Decidable.byContradiction fun z => b.mpr (a.mp fun e => z (List.map_eq_nil_iff.mp e)) h
end K29
set_option Elab.async false
set_option linter.all false
set_option maxRecDepth 100000
/-! Plain: a great web's zigzags. -/
namespace K29
open PySem PySem.Spec PyProof.Rows L2 G PySem.W
theorem mem_near {ls found : List Ln} {l : Ln} : l ∈ nearOf ls found ↔ l ∈ ls ∧ l ∉ found ∧ ∃ m, m ∈ found ∧ (m.1 = l.1 ∨ m.2 = l.2) := by
  unfold nearOf
  rw [List.mem_filter]
  refine and_congr Iff.rfl ?_
  rw [Bool.and_eq_true, Bool.or_eq_true, Bool.not_eq_true', inB_false, inB_true, inB_true]
  refine and_congr Iff.rfl ?_
  constructor
  · rintro (h | h)
    · obtain ⟨m, hm, e⟩ := List.mem_map.mp h
      exact ⟨m, hm, .inl e⟩
    · obtain ⟨m, hm, e⟩ := List.mem_map.mp h
      exact ⟨m, hm, .inr e⟩
  · rintro ⟨m, hm, h | h⟩
    · exact .inl (List.mem_map.mpr ⟨m, hm, h⟩)
    · exact .inr (List.mem_map.mpr ⟨m, hm, h⟩)
structure ZigI (ls r z : List Ln) (line : Ln) : Prop where
  nd : z.Nodup
  sub : ∀ x, x ∈ z → x ∈ r
  mem : line ∈ z
theorem zig_inv {ls r : List Ln} {line : Ln} (D : Deg ls) (ok : RowOk ls r) (h : line ∈ r) : ∀ k, ZigI ls r (zigAt ls line k) line
  | 0 => ⟨by simp [zigAt], fun x hx => by rw [List.mem_singleton.mp hx]; exact h, List.mem_singleton.mpr rfl⟩
  | k + 1 => by
    have ih := zig_inv D ok h k
    rw [zigAt]
    refine ⟨List.nodup_append.mpr ⟨ih.nd, D.nd.sublist List.filter_sublist, fun a ha b hb e => (mem_near.mp hb).2.1 (e ▸ ha)⟩, fun x hx => ?_, List.mem_append_left _ ih.mem⟩
    rcases List.mem_append.mp hx with q | q
    · exact ih.sub x q
    · obtain ⟨h1, h2, m, hm, e⟩ := mem_near.mp q
      refine ok.cl (ih.sub m hm) h1 (beside_iff.mpr ⟨fun z => h2 (z ▸ hm), e.imp Eq.symm Eq.symm⟩)
theorem zig_end {ls r : List Ln} {line : Ln} (D : Deg ls) (ok : RowOk ls r) (h : line ∈ r) : nearOf ls (zigOf ls line) = [] := by
  have go : ∀ k, nearOf ls (zigAt ls line k) = [] ∨ k + 1 ≤ (zigAt ls line k).length := by
    intro k
    induction k with
    | zero => right; simp [zigAt]
    | succ k ih =>
      by_cases c : nearOf ls (zigAt ls line k) = []
      · left
        have e := zig_stop c 1
        rw [e]; exact c
      · right
        rw [zigAt, List.length_append]
        have := List.length_pos_iff.mpr c
        have := ih.resolve_left c
        omega
  rcases go ls.length with q | q
  · exact q
  · have I := zig_inv D ok h ls.length
    have := sub_len I.nd fun x hx => ok.sub x (I.sub x hx)
    omega
/-- the zigzag found is the row -/
theorem zig_row {ls r : List Ln} {line : Ln} (D : Deg ls) (ok : RowOk ls r) (h : line ∈ r) : (zigOf ls line).Nodup ∧ ∀ x, x ∈ zigOf ls line ↔ x ∈ r := by
  have I := zig_inv D ok h ls.length
  have fin := zig_end D ok h
  refine ⟨I.nd, fun x => ⟨I.sub x, fun hx => ?_⟩⟩
  refine chain_in (S := fun x => x ∈ zigOf ls line) ok.sub ok.adj (fun a l ha hl hb => ?_) h I.mem x hx
  by_cases c : l ∈ zigOf ls line
  · exact c
  · have : l ∈ nearOf ls (zigOf ls line) := mem_near.mpr ⟨hl, c, a, ha, (beside_iff.mp hb).2.imp Eq.symm Eq.symm⟩
    rw [fin] at this
    cases this
/-! ### the ways to keep a zigzag -/
theorem mem_children {g : List Ln} : ∀ {cs : List Str}, cs.Nodup → (g.foldl chStep cs).Nodup ∧ ∀ c, c ∈ g.foldl chStep cs ↔ c ∈ cs ∨ ∃ l, l ∈ g ∧ l.2 = c := by
  induction g with
  | nil =>
    intro cs nd
    exact ⟨nd, fun c => ⟨.inl, fun h => h.elim id fun ⟨l, hl, _⟩ => absurd hl List.not_mem_nil⟩⟩
  | cons l g ih =>
    intro cs nd
    rw [List.foldl_cons]
    have nd' : (chStep cs l).Nodup := by
      unfold chStep
      split
      · rename_i h
        have h : l.2 ∉ cs := inB_false.mp (by simpa using h)
        refine List.nodup_append.mpr ⟨nd, by simp, fun a ha b hb e => h ?_⟩
        rw [← List.mem_singleton.mp hb, ← e]
        exact ha
      · exact nd
    have mm : ∀ c, c ∈ chStep cs l ↔ c ∈ cs ∨ l.2 = c := fun c => by
      unfold chStep
      split
      · rw [List.mem_append, List.mem_singleton]
        exact or_congr Iff.rfl eq_comm
      · rename_i h
        have h : l.2 ∈ cs := inB_true.mp (by simpa using h)
        exact ⟨.inl, fun q => q.elim id fun e => e ▸ h⟩
    obtain ⟨a, b⟩ := ih nd'
    refine ⟨a, fun c => ?_⟩
    rw [b c, mm c, or_assoc]
    refine or_congr Iff.rfl ?_
    constructor
    · rintro (e | ⟨m, hm, e⟩)
      · exact ⟨l, List.mem_cons_self, e⟩
      · exact ⟨m, List.mem_cons_of_mem _ hm, e⟩
    · rintro ⟨m, hm, e⟩
      rcases List.mem_cons.mp hm with q | q
      · left; rw [← q]; exact e
      · right; exact ⟨m, q, e⟩
theorem children_nd (g : List Ln) : (childrenOf g).Nodup := (mem_children List.nodup_nil).1
theorem children_mem {g : List Ln} {c : Str} : c ∈ childrenOf g ↔ ∃ l, l ∈ g ∧ l.2 = c := by
  rw [childrenOf, (mem_children List.nodup_nil).2 c]
  exact ⟨fun h => h.resolve_left List.not_mem_nil, .inr⟩
theorem mem_keptStep {g : List Ln} {found : List (List Ln)} {c : Str} {w : List Ln} : w ∈ keptStep g found c ↔ ∃ p l, p ∈ found ∧ l ∈ g ∧ l.2 = c ∧ w = p ++ [l] := by
  unfold keptStep
  rw [List.mem_flatMap]
  constructor
  · rintro ⟨p, hp, h⟩
    obtain ⟨l, hl, e⟩ := List.mem_map.mp h
    obtain ⟨a, b⟩ := List.mem_filter.mp hl
    exact ⟨p, l, hp, a, of_decide_eq_true b, e.symm⟩
  · rintro ⟨p, l, hp, hl, e1, e⟩
    exact ⟨p, hp, List.mem_map.mpr ⟨l, List.mem_filter.mpr ⟨hl, decide_eq_true e1⟩, e.symm⟩⟩
theorem mem_keptFold {g : List Ln} : ∀ {cs : List Str} {found : List (List Ln)} {w : List Ln}, w ∈ cs.foldl (keptStep g) found ↔ ∃ p t, p ∈ found ∧ (∀ l, l ∈ t → l ∈ g) ∧ t.map (·.2) = cs ∧ w = p ++ t
  | [], found, w => by
    constructor
    · intro h; exact ⟨w, [], h, fun l hl => absurd hl List.not_mem_nil, rfl, (List.append_nil w).symm⟩
    · rintro ⟨p, t, h, _, e1, e⟩
      rw [e, List.map_eq_nil_iff.mp e1, List.append_nil]; exact h
  | c :: cs, found, w => by
    rw [List.foldl_cons, mem_keptFold]
    constructor
    · rintro ⟨p, t, h, q, e1, e⟩
      obtain ⟨p', l, hp, hl, e2, e3⟩ := mem_keptStep.mp h
      refine ⟨p', l :: t, hp, fun x hx => ?_, by rw [List.map_cons, e2, e1], by rw [e, e3, List.append_assoc]; rfl⟩
      rcases List.mem_cons.mp hx with z | z
      · rw [z]; exact hl
      · exact q x z
    · rintro ⟨p, t, h, q, e1, e⟩
      cases t with
      | nil => cases e1
      | cons l t =>
        rw [List.map_cons] at e1
        obtain ⟨e2, e3⟩ := List.cons.inj e1
        exact ⟨_, t, mem_keptStep.mpr ⟨p, l, h, q l List.mem_cons_self, e2, rfl⟩, fun x hx => q x (List.mem_cons_of_mem _ hx), e3, by rw [e, List.append_assoc]; rfl⟩
theorem mem_ways {g : List Ln} {w : List Ln} : w ∈ waysOf g ↔ (∀ l, l ∈ w → l ∈ g) ∧ w.map (·.2) = childrenOf g ∧ ∀ l, l ∈ g → l.1 ∈ w.map (·.1) := by
  unfold waysOf
  rw [List.mem_filter, mem_keptFold, List.all_map, List.all_eq_true, ← and_assoc]
  refine and_congr ?_ ?_
  · constructor
    · rintro ⟨p, t, h, a, b, e⟩
      rw [List.mem_singleton.mp h] at e
      rw [e]; exact ⟨a, b⟩
    · rintro ⟨a, b⟩
      exact ⟨[], w, List.mem_singleton.mpr rfl, a, b, rfl⟩
  · constructor
    · intro h l hl
      exact inB_true.mp (h l.1 (List.mem_map.mpr ⟨l, hl, rfl⟩))
    · intro h x hx
      obtain ⟨l, hl, e⟩ := List.mem_map.mp hx
      exact inB_true.mpr (by rw [← e]; exact h l hl)
def kW (w : List Ln) (l : Ln) : Bool := inB l w
theorem map_inj {α β : Type} {f : α → β} : ∀ {xs : List α}, (xs.map f).Nodup → ∀ {a b : α}, a ∈ xs → b ∈ xs → f a = f b → a = b
  | [], _, _, _, h, _, _ => absurd h List.not_mem_nil
  | x :: xs, nd, a, b, ha, hb, e => by
    have nd := List.nodup_cons.mp nd
    rcases List.mem_cons.mp ha with p | p
    · rcases List.mem_cons.mp hb with q | q
      · rw [p, q]
      · exact absurd (List.mem_map.mpr ⟨b, q, by rw [← e, p]⟩) nd.1
    · rcases List.mem_cons.mp hb with q | q
      · exact absurd (List.mem_map.mpr ⟨a, p, by rw [e, q]⟩) nd.1
      · exact map_inj nd.2 p q e
theorem way_val {g w : List Ln} (h : w ∈ waysOf g) : Val g (kW w) := by
  obtain ⟨sub, ch, src⟩ := mem_ways.mp h
  have nd : (w.map (·.2)).Nodup := by rw [ch]; exact children_nd g
  refine ⟨fun l hl => ?_, fun l m _ _ e h1 h2 => map_inj nd (inB_true.mp h1) (inB_true.mp h2) e, fun l hl => ?_⟩
  · have : l.2 ∈ w.map (·.2) := by rw [ch]; exact children_mem.mpr ⟨l, hl, rfl⟩
    obtain ⟨m, hm, e⟩ := List.mem_map.mp this
    exact ⟨m, sub m hm, e, inB_true.mpr hm⟩
  · obtain ⟨m, hm, e⟩ := List.mem_map.mp (src l hl)
    exact ⟨m, sub m hm, e, inB_true.mpr hm⟩
theorem rep_ways (g : List Ln) : Rep g nofix ((waysOf g).map kW) := by
  refine ⟨fun k hk => ?_, fun k _ v => ?_⟩
  · obtain ⟨w, hw, rfl⟩ := List.mem_map.mp hk
    exact ⟨fit_no, way_val hw⟩
  · let f : Str → Ln := fun c => (g.find? fun l => decide (l.2 = c) && k l).getD lnD
    have hf : ∀ c, c ∈ childrenOf g → f c ∈ g ∧ (f c).2 = c ∧ k (f c) = true := by
      intro c hc
      obtain ⟨l, hl, e⟩ := children_mem.mp hc
      obtain ⟨m, hm, em, km⟩ := v.c l hl
      have : ∃ x, g.find? (fun l => decide (l.2 = c) && k l) = some x := by
        cases h : g.find? fun l => decide (l.2 = c) && k l with
        | some x => exact ⟨x, rfl⟩
        | none =>
          have := List.find?_eq_none.mp h m hm
          rw [decide_eq_true (em.trans e), km] at this
          exact absurd rfl this
      obtain ⟨x, hx⟩ := this
      have e : f c = x := by show (List.find? _ _).getD _ = _; rw [hx]; rfl
      have a := List.mem_of_find?_eq_some hx
      have b := Bool.and_eq_true_iff.mp (List.find?_some (p := fun l => decide (l.2 = c) && k l) hx)
      rw [e]
      exact ⟨a, of_decide_eq_true b.1, b.2⟩
    have same : ∀ l, l ∈ g → kW ((childrenOf g).map f) l = k l := by
      intro l hl
      have hc : l.2 ∈ childrenOf g := children_mem.mpr ⟨l, hl, rfl⟩
      cases hk : k l with
      | true =>
        have hf := hf _ hc
        have := v.u _ _ hf.1 hl hf.2.1 hf.2.2 hk
        exact inB_true.mpr (List.mem_map.mpr ⟨l.2, hc, this⟩)
      | false =>
        refine inB_false.mpr fun z => ?_
        obtain ⟨c, hc, e⟩ := List.mem_map.mp z
        have := (hf c hc).2.2
        rw [e, hk] at this
        cases this
    refine ⟨_, List.mem_map.mpr ⟨(childrenOf g).map f, mem_ways.mpr ⟨fun l hl => ?_, ?_, fun l hl => ?_⟩, rfl⟩, same⟩
    · obtain ⟨c, hc, e⟩ := List.mem_map.mp hl
      rw [← e]
      exact (hf c hc).1
    · rw [List.map_map]
      conv => rhs; rw [← List.map_id (childrenOf g)]
      exact List.map_congr_left fun c hc => (hf c hc).2.1
    · obtain ⟨m, hm, em, km⟩ := v.s l hl
      have := same m hm
      rw [km] at this
      exact List.mem_map.mpr ⟨m, inB_true.mp this, em⟩
theorem way_tot {g w : List Ln} (nd : g.Nodup) (h : w ∈ waysOf g) (wt : Ln → Int) : (w.map wt).sum = tot wt g (kW w) := by
  obtain ⟨sub, ch, _⟩ := mem_ways.mp h
  have ndw : w.Nodup := by
    have : (w.map (·.2)).Nodup := by rw [ch]; exact children_nd g
    exact (List.pairwise_map.mp this).imp fun ne e => ne (by rw [e])
  refine isum_perm (List.Perm.map wt ?_)
  refine (List.perm_ext_iff_of_nodup ndw (nd.sublist List.filter_sublist)).mpr fun l => ?_
  rw [List.mem_filter]
  exact ⟨fun hl => ⟨sub l hl, inB_true.mpr hl⟩, fun hl => inB_true.mp hl.2⟩
theorem Val.mem {S T : List Ln} {k : Ln → Bool} (h : ∀ x, x ∈ S ↔ x ∈ T) (v : Val S k) : Val T k where
  c := fun l hl => let ⟨m, a, b, c⟩ := v.c l ((h l).mpr hl); ⟨m, (h m).mp a, b, c⟩
  u := fun l m hl hm => v.u l m ((h l).mpr hl) ((h m).mpr hm)
  s := fun l hl => let ⟨m, a, b, c⟩ := v.s l ((h l).mpr hl); ⟨m, (h m).mp a, b, c⟩
theorem Fit.mem {S T : List Ln} {f : Ln → Option Bool} {k : Ln → Bool} (h : ∀ x, x ∈ S ↔ x ∈ T) (v : Fit f S k) : Fit f T k := fun l hl => v l ((h l).mpr hl)
theorem Can.mem {S T : List Ln} {f : Ln → Option Bool} (h : ∀ x, x ∈ S ↔ x ∈ T) (v : Can S f) : Can T f := let ⟨k, a, b⟩ := v; ⟨k, a.mem h, b.mem h⟩
theorem Best.perm {S T : List Ln} {f : Ln → Option Bool} {wt : Ln → Int} {b : Int} (h : S.Perm T) (v : Best wt S f b) : Best wt T f b := by
  have m : ∀ x, x ∈ S ↔ x ∈ T := fun x => h.mem_iff
  refine ⟨?_, fun k h1 h2 => ?_⟩
  · obtain ⟨k, a, b, c⟩ := v.at_
    exact ⟨k, a.mem m, b.mem m, by rw [← tot_perm h]; exact c⟩
  · rw [← tot_perm h]
    exact v.le k (h1.mem fun x => (m x).symm) (h2.mem fun x => (m x).symm)
/-! ### one zigzag among all -/
theorem Best.agree {S : List Ln} {f f' : Ln → Option Bool} {wt wt' : Ln → Int} {b : Int} (hf : ∀ l, l ∈ S → f l = f' l) (hw : ∀ l, l ∈ S → wt l = wt' l) (v : Best wt S f b) : Best wt' S f' b := by
  have ft : ∀ {k}, Fit f S k ↔ Fit f' S k := fun {k} => ⟨fun h l hl => by rw [← hf l hl]; exact h l hl, fun h l hl => by rw [hf l hl]; exact h l hl⟩
  refine ⟨?_, fun k h1 h2 => ?_⟩
  · obtain ⟨k, a, b, c⟩ := v.at_
    exact ⟨k, ft.mp a, b, by rw [← tot_congr (fun _ _ => rfl) hw]; exact c⟩
  · rw [← tot_congr (fun _ _ => rfl) hw]
    exact v.le k (ft.mpr h1) h2
theorem Can.agree {S : List Ln} {f f' : Ln → Option Bool} (hf : ∀ l, l ∈ S → f l = f' l) (v : Can S f) : Can S f' := by
  obtain ⟨k, a, b⟩ := v
  exact ⟨k, fun l hl => by rw [← hf l hl]; exact a l hl, b⟩
/-- other weights and fixed lines in one zigzag alone -/
theorem best_move {ls : List Ln} {zz : List (List Ln)} (D : Deg ls) (p : PartR ls zz) {r : List Ln} (hr : r ∈ zz) {f f' : Ln → Option Bool} {wt wt' : Ln → Int} (hf : ∀ l, l ∈ ls → l ∉ r → f l = f' l) (hw : ∀ l, l ∈ ls → l ∉ r → wt l = wt' l) {b x y : Int} (hb : Best wt ls f b) (hx : Best wt r f x) (hy : Best wt' r f' y) : Best wt' ls f' (b - x + y) := by
  have can : Can ls f := let ⟨k, a, b, _⟩ := hb.at_; ⟨k, a, b⟩
  have each := (can_part p).mp can
  have hb' : ∀ q, ∃ c, q ∈ zz → Best wt q f c := fun q => by
    by_cases c : q ∈ zz
    · have ne := (row_can D (p.ok q c) f).mpr (each q c)
      have nn : (settingsOf f q).map (kOf q) ≠ [] := fun e => ne (List.map_eq_nil_iff.mp e)
      exact ⟨_, fun _ => (rep_row D (p.ok q c) f).best wt nn⟩
    · exact ⟨0, fun z => absurd z c⟩
  obtain ⟨β, hβ⟩ := Classical.axiomOfChoice hb'
  obtain ⟨as, bs, e⟩ := List.append_of_mem hr
  have far : ∀ q, q ∈ as ++ bs → q ∈ zz ∧ ∀ l, l ∈ q → l ∉ r := fun q hq => by
    have hz : q ∈ zz := by
      rw [e]
      rcases List.mem_append.mp hq with z | z
      · exact List.mem_append_left _ z
      · exact List.mem_append_right _ (List.mem_cons_of_mem _ z)
    refine ⟨hz, fun l hl hlr => ?_⟩
    have nd := p.nd
    rw [e, List.flatten_append, List.flatten_cons] at nd
    obtain ⟨n1, n2, n3⟩ := List.nodup_append.mp nd
    obtain ⟨m1, m2, m3⟩ := List.nodup_append.mp n2
    rcases List.mem_append.mp hq with z | z
    · exact n3 l (List.mem_flatten.mpr ⟨q, z, hl⟩) l (List.mem_append_left _ hlr) rfl
    · exact m3 l hlr l (List.mem_flatten.mpr ⟨q, z, hl⟩) rfl
  have n1 := best_part p D.nd β fun q hq => hβ q hq
  have n2 := best_part p D.nd (wt := wt') (f := f') (fun q => if q = r then y else β q) fun q hq => by
    by_cases c : q = r
    · show Best wt' q f' (if q = r then y else β q)
      rw [if_pos c, c]; exact hy
    · show Best wt' q f' (if q = r then y else β q)
      rw [if_neg c]
      have nr : ∀ l, l ∈ q → l ∉ r := fun l hl hlr => c (flat_one p.nd hq hr hl hlr)
      exact (hβ q hq).agree (fun l hl => hf l ((p.ok q hq).sub l hl) (nr l hl)) fun l hl => hw l ((p.ok q hq).sub l hl) (nr l hl)
  have s1 : (zz.map β).sum = b := n1.eq hb
  have s2 : (zz.map fun q => if q = r then y else β q).sum = b - x + y := by
    rw [← s1, ← (hβ r hr).eq hx, e]
    have out : ∀ qs : List (List Ln), (∀ q, q ∈ qs → q ≠ r) → (qs.map fun q => if q = r then y else β q) = qs.map β := fun qs h => List.map_congr_left fun q hq => if_neg (h q hq)
    have ner : ∀ q, q ∈ as ++ bs → q ≠ r := fun q hq z => by
      have a := List.length_pos_iff.mpr (p.ok r hr).ne
      have : r[0] ∈ q := by rw [z]; exact List.getElem_mem a
      exact (far q hq).2 _ this (List.getElem_mem a)
    rw [List.map_append, List.map_cons, List.map_append, List.map_cons, out as fun q hq => ner q (List.mem_append_left _ hq), out bs fun q hq => ner q (List.mem_append_right _ hq), isum_append, isum_append, List.sum_cons, List.sum_cons, if_pos rfl]
    omega
  rw [← s2]
  exact n2
theorem can_move {ls : List Ln} {zz : List (List Ln)} (p : PartR ls zz) {r : List Ln} (hr : r ∈ zz) {f : Ln → Option Bool} (hf : ∀ l, l ∈ ls → l ∉ r → f l = nofix l) (all : Can ls nofix) : Can ls f ↔ Can r f := by
  refine ⟨fun h => (can_part p).mp h r hr, fun h => (can_part p).mpr fun q hq => ?_⟩
  by_cases c : q = r
  · rw [c]; exact h
  · refine ((can_part p).mp all q hq).agree fun l hl => (hf l ((p.ok q hq).sub l hl) fun hlr => c ?_).symm
    exact flat_one p.nd hq hr hl hlr
/-- what the law finds of a zigzag -/
structure Zig (rows : List NRow) (l : Ln) (g r : List Ln) : Prop where
  hr : r ∈ rowsIn (linesOf rows)
  nd : g.Nodup
  mem : ∀ x, x ∈ g ↔ x ∈ r
  hl : l ∈ g
theorem zig_ok {rows : List NRow} (ro : RowsOk rows) {l : Ln} (hl : l ∈ linesOf rows) : ∃ r, Zig rows l (zigOf (linesOf rows) l) r := by
  have D := rows_deg ro
  have p := rowsIn_ok D
  obtain ⟨r, hr, h⟩ := List.mem_flatten.mp ((p.all l).mpr hl)
  have z := zig_row D (p.ok r hr) h
  exact ⟨r, hr, z.1, z.2, (z.2 l).mpr h⟩
theorem Zig.perm {rows : List NRow} {l : Ln} {g r : List Ln} (ro : RowsOk rows) (z : Zig rows l g r) : g.Perm r := (List.perm_ext_iff_of_nodup z.nd ((rowsIn_ok (rows_deg ro)).ok r z.hr).nd).mpr z.mem
theorem Zig.grp {rows : List NRow} {l : Ln} {g r : List Ln} (ro : RowsOk rows) (h24 : rows.length ≤ 24) (z : Zig rows l g r) : GrpOk g := by
  have D := rows_deg ro
  have p := rowsIn_ok D
  have sub : ∀ x, x ∈ g → x ∈ linesOf rows := fun x hx => (p.ok r z.hr).sub x ((z.mem x).mp hx)
  refine ⟨?_, ?_, fun c => ?_⟩
  · have := sub_len z.nd sub
    rw [lines_len] at this
    exact Nat.le_trans this ro.few
  · have := sub_len (children_nd g) (ys := headsOf rows) fun c hc => by
      obtain ⟨m, hm, e⟩ := children_mem.mp hc
      obtain ⟨i, q, hq, e1, _⟩ := line_at ro (sub m hm)
      rw [← e, e1]
      exact List.mem_map.mpr ⟨q, List.mem_of_getElem? hq, rfl⟩
    unfold headsOf at this
    rw [List.length_map, List.length_drop] at this
    omega
  · by_cases h : 2 < (g.filter fun l => decide (l.2 = c)).length
    · have nd : (g.filter fun l => decide (l.2 = c)).Nodup := z.nd.sublist List.filter_sublist
      have m : ∀ i (hi : i < (g.filter fun l => decide (l.2 = c)).length), (g.filter fun l => decide (l.2 = c))[i] ∈ linesOf rows ∧ ((g.filter fun l => decide (l.2 = c))[i]).2 = c := fun i hi => by
        have := List.mem_filter.mp (List.getElem_mem hi)
        exact ⟨sub _ this.1, of_decide_eq_true this.2⟩
      have m0 := m 0 (by omega)
      have m1 := m 1 (by omega)
      have m2 := m 2 (by omega)
      rcases D.c _ _ _ m0.1 m1.1 m2.1 (m0.2.trans m1.2.symm) (m0.2.trans m2.2.symm) with e | e | e
      · have := (List.getElem_inj nd).mp e; omega
      · have := (List.getElem_inj nd).mp e; omega
      · have := (List.getElem_inj nd).mp e; omega
    · omega
/-- some choice keeps what is picked -/
theorem pick_can {rows : List NRow} (ro : RowsOk rows) (pk : Pickable rows) : Can (linesOf rows) nofix := by
  obtain ⟨f, h1, h2⟩ := pk
  refine ⟨fun l => decide (f l.2 = l.1), fit_no, fun l hl => ?_, fun l m hl hm e a b => ?_, fun l hl => ?_⟩
  · obtain ⟨r, hr, e, hs⟩ := mem_lines.mp hl
    have ne : r.2 ≠ [] := fun z => by rw [z] at hs; cases hs
    exact ⟨(f r.1, r.1), mem_lines.mpr ⟨r, hr, rfl, h1 r hr ne⟩, e.symm, decide_eq_true rfl⟩
  · have a := of_decide_eq_true a
    have b := of_decide_eq_true b
    rw [e, b] at a
    exact Prod.ext a.symm e
  · obtain ⟨r, hr, ne, e⟩ := h2 l.1 (by rw [used_lines]; exact List.mem_map.mpr ⟨l, hl, rfl⟩)
    exact ⟨(f r.1, r.1), mem_lines.mpr ⟨r, hr, rfl, h1 r hr ne⟩, e, decide_eq_true rfl⟩
/-- the sums of the ways of a zigzag -/
def wsumOf (ls : List Ln) (ws : List Int) (w : List Ln) : Int := (w.map fun l => ws.getD (idxB l ls) 0).sum
theorem wt_at : ∀ {ls : List Ln} {ws : List Int} {l : Ln}, ws.length = ls.length → l ∈ ls → ws.getD (idxB l ls) 0 = wtOf ls ws l
  | [], _, _, _, h => absurd h List.not_mem_nil
  | _ :: _, [], _, h, _ => by cases h
  | a :: ls, w :: ws, l, h, hl => by
    have ie : idxB l (a :: ls) = if a = l then 0 else idxB l ls + 1 := by
      letI : BEq Ln := instBEqOfDecidableEq
      show List.idxOf l (a :: ls) = if a = l then 0 else List.idxOf l ls + 1
      rw [List.idxOf_cons]
      by_cases c : a = l
      · rw [if_pos c]
        have : (a == l) = true := decide_eq_true c
        rw [this]
        rfl
      · rw [if_neg c]
        have : (a == l) = false := decide_eq_false c
        rw [this]
        rfl
    show _ = (lkZ (a :: ls) (w :: ws) l).getD 0
    rw [lkZ, ie]
    by_cases c : a = l
    · rw [if_pos c, if_pos c]
      rfl
    · rw [if_neg c, if_neg c]
      have ih := wt_at (ls := ls) (ws := ws) (l := l) (by simpa using h) ((List.mem_cons.mp hl).resolve_left fun e => c e.symm)
      rw [List.getD_cons_succ]
      exact ih
theorem Zig.sums {rows : List NRow} {l : Ln} {g r : List Ln} (ro : RowsOk rows) (z : Zig rows l g r) {ws : List Int} (hw : ws.length = (linesOf rows).length) : (waysOf g).map (wsumOf (linesOf rows) ws) = ((waysOf g).map kW).map (tot (wtOf (linesOf rows) ws) g) := by
  rw [List.map_map]
  refine List.map_congr_left fun w h => ?_
  show wsumOf _ _ w = tot _ g (kW w)
  rw [← way_tot z.nd h]
  unfold wsumOf
  refine congrArg _ (List.map_congr_left fun x hx => wt_at hw ?_)
  exact ((rowsIn_ok (rows_deg ro)).ok r z.hr).sub x ((z.mem x).mp ((mem_ways.mp h).1 x hx))
theorem Zig.some {rows : List NRow} {l : Ln} {g r : List Ln} (ro : RowsOk rows) (pk : Pickable rows) (z : Zig rows l g r) : waysOf g ≠ [] := fun e => by
  have c := ((can_part (rowsIn_ok (rows_deg ro))).mp (pick_can ro pk) r z.hr).mem fun x => (z.mem x).symm
  exact (rep_ways g).can.mpr c (by rw [e]; rfl)
/-- a great web's line -/
theorem great_worth {rows : List NRow} (ro : RowsOk rows) (pk : Pickable rows) {ws : List Int} (hw : ws.length = (linesOf rows).length) {l : Ln} {g r : List Ln} (z : Zig rows l g r) :
    dueOf ((waysOf g).map (wsumOf (linesOf rows) ws)) ((waysOf g).map fun w => inB l w) = worthOf (netOf rows) ws l := by
  have D := rows_deg ro
  have p := rowsIn_ok D
  have all := pick_can ro pk
  have e2 : ((waysOf g).map fun w => inB l w) = ((waysOf g).map kW).map fun k => k l := by rw [List.map_map]; rfl
  rw [z.sums ro hw, e2]
  have d := due_eq (rep_ways g) z.hl (wtOf (linesOf rows) ws)
  have w := worth_eq (n := netOf rows) D p ws l
  have pm := z.perm ro
  have lr : l ∈ r := (z.mem l).mp z.hl
  have out : ∀ b x, x ∈ linesOf rows → x ∉ r → onefix l b x = nofix x := fun b x _ hx => by
    unfold onefix
    rw [if_neg fun e => hx (by rw [← e]; exact lr)]
    rfl
  have can : ∀ b, Can g (onefix l b) ↔ Can (linesOf rows) (onefix l b) := fun b => by
    rw [can_move p z.hr (out b) all]
    exact ⟨fun h => h.mem z.mem, fun h => h.mem fun x => (z.mem x).symm⟩
  rw [can true, can false] at d
  by_cases c1 : Can (linesOf rows) (onefix l true)
  · by_cases c2 : Can (linesOf rows) (onefix l false)
    · obtain ⟨b, c, hb, hc, e⟩ := d.2 c1 c2
      rw [e]
      have hb := hb.perm pm
      have hc := hc.perm pm
      have B := bestWith_best (n := netOf rows) D p ws c1
      have C := best_move D p z.hr (f := onefix l true) (f' := onefix l false) (wt := wtOf (linesOf rows) ws) (wt' := wtOf (linesOf rows) ws) (fun x h1 h2 => (out true x h1 h2).trans (out false x h1 h2).symm) (fun _ _ _ => rfl) B hb hc
      rw [w.2 _ _ B C]
      congr 1
      omega
    · rw [d.1 (.inr c2)]
      exact (w.1 (.inr c2)).symm
  · rw [d.1 (.inl c1)]
    exact (w.1 (.inl c1)).symm
theorem great_num {rows : List NRow} (ro : RowsOk rows) (pk : Pickable rows) : numWith nofix (netOf rows) ≠ 0 := (numWith_can (n := netOf rows) (rows_deg ro) (rowsIn_ok (rows_deg ro))).mpr (pick_can ro pk)
theorem lkZ_set {ls : List Ln} {ws : List Int} {i : Nat} {l : Ln} {x : Int} (nd : ls.Nodup) (hw : ws.length = ls.length) (hl : ls[i]? = some l) (m : Ln) (hm : m ∈ ls) : wtOf ls (ws.set i x) m = if m = l then x else wtOf ls ws m := by
  obtain ⟨j, hj⟩ := List.mem_iff_getElem?.mp hm
  have ji := idxB_nd nd hj
  have jl := getE_lt hj
  rw [← wt_at (by rw [List.length_set]; exact hw) hm, ← wt_at hw hm, ji]
  rw [List.getD_eq_getElem?_getD, List.getD_eq_getElem?_getD]
  by_cases c : m = l
  · subst c
    have e := nd_inj nd hl hj
    subst e
    rw [if_pos rfl, List.getElem?_set_self (by omega)]
    rfl
  · have e : i ≠ j := fun z => by rw [z, hj] at hl; cases hl; exact c rfl
    rw [if_neg c, List.getElem?_set_ne e]
/-- the best sum with another weight -/
theorem great_moved {rows : List NRow} (ro : RowsOk rows) (pk : Pickable rows) {ws : List Int} (hw : ws.length = (linesOf rows).length) {l : Ln} {g r : List Ln} (z : Zig rows l g r) {i : Nat} (hl : (linesOf rows)[i]? = some l) (x : Int) :
    bestWith (netOf rows) (ws.set i x) nofix = bestWith (netOf rows) ws nofix - mxI ((waysOf g).map (wsumOf (linesOf rows) ws)) + mxI ((waysOf g).map fun w => if inB l w then wsumOf (linesOf rows) ws w + x - ws.getD i 0 else wsumOf (linesOf rows) ws w) := by
  have D := rows_deg ro
  have p := rowsIn_ok D
  have all := pick_can ro pk
  have ne := z.some ro pk
  have nn : (waysOf g).map kW ≠ [] := fun e => ne (List.map_eq_nil_iff.mp e)
  have hw' : (ws.set i x).length = (linesOf rows).length := by rw [List.length_set]; exact hw
  have b1 := (rep_ways g).best (wtOf (linesOf rows) ws) nn
  have b2 := (rep_ways g).best (wtOf (linesOf rows) (ws.set i x)) nn
  rw [← z.sums ro hw] at b1
  rw [← z.sums ro hw'] at b2
  have lr : l ∈ r := (z.mem l).mp z.hl
  have B := bestWith_best (n := netOf rows) D p ws all
  have C := bestWith_best (n := netOf rows) D p (ws.set i x) all
  have M := best_move D p z.hr (f := nofix) (f' := nofix) (wt := wtOf (linesOf rows) ws) (wt' := wtOf (linesOf rows) (ws.set i x)) (fun _ _ _ => rfl) (fun m hm hr => by rw [lkZ_set D.nd hw hl m hm, if_neg fun e => hr (by rw [e]; exact lr)]) B (b1.perm (z.perm ro)) (b2.perm (z.perm ro))
  rw [C.eq M]
  congr 2
  refine List.map_congr_left fun w h => ?_
  obtain ⟨sub, ch, _⟩ := mem_ways.mp h
  have inl : ∀ m, m ∈ w → m ∈ linesOf rows := fun m hm => (p.ok r z.hr).sub m ((z.mem m).mp (sub m hm))
  have ndw : w.Nodup := by
    have : (w.map (·.2)).Nodup := by rw [ch]; exact children_nd g
    exact (List.pairwise_map.mp this).imp fun ne e => ne (by rw [e])
  have wl : ws.getD i 0 = wtOf (linesOf rows) ws l := by rw [← wt_at hw (getE_mem hl), idxB_nd D.nd hl]
  have s1 : wsumOf (linesOf rows) ws w = (w.map (wtOf (linesOf rows) ws)).sum := congrArg _ (List.map_congr_left fun m hm => wt_at hw (inl m hm))
  have s2 : wsumOf (linesOf rows) (ws.set i x) w = (w.map fun m => if m = l then x else wtOf (linesOf rows) ws m).sum := congrArg _ (List.map_congr_left fun m hm => (wt_at hw' (inl m hm)).trans (lkZ_set D.nd hw hl m (inl m hm)))
  rw [s1, s2, wl]
  have far : ∀ xs : List Ln, l ∉ xs → (xs.map fun m => if m = l then x else wtOf (linesOf rows) ws m).sum = (xs.map (wtOf (linesOf rows) ws)).sum := fun xs hx => congrArg _ (List.map_congr_left fun m hm => if_neg fun e => hx (by rw [← e]; exact hm))
  by_cases c : l ∈ w
  · rw [if_pos (inB_true.mpr c)]
    obtain ⟨as, bs, e⟩ := List.append_of_mem c
    rw [e] at ndw ⊢
    obtain ⟨n1, n2, n3⟩ := List.nodup_append.mp ndw
    have n2 := List.nodup_cons.mp n2
    have na : l ∉ as := fun h => n3 l h l List.mem_cons_self rfl
    rw [List.map_append, List.map_cons, List.map_append, List.map_cons, isum_append, isum_append, List.sum_cons, List.sum_cons, if_pos rfl, far as na, far bs n2.1]
    omega
  · rw [if_neg (by rw [inB_false.mpr c]; exact Bool.false_ne_true), far w c]
end K29
set_option Elab.async false
set_option linter.all false
set_option maxRecDepth 100000
set_option maxHeartbeats 4000000
/-! The law's defs: a web laid zigzag by zigzag, walked. -/
namespace G
open PySem PySem.Spec PyProof.Rows L2 PySem.W
theorem y_pairE {K : PySem.W.Frag} {B : Bs} {g : Slots} {L : Ls} {t1 t2 : TE} {α β : Type} [DecidableEq α] [Datum α] [DecidableEq β] [Datum β] {x : α} {A : β → Prop} (h1 : Y B g L t1 (Is K x)) (h2 : Y B g L t2 (Ex K A)) : Y B g L (tTup (tCons t1 (tCons t2 tNil))) (Ex K fun z : α × β => z.1 = x ∧ A z.2) := fun s H a Q k =>
  ya_cons h1 (ya_cons h2 ya_nil) s H a _ fun vs H1 e j p => by
    cases p with
    | cons p1 p =>
      cases p with
      | cons p2 p =>
        cases p
        obtain ⟨y, hy, p2⟩ := p2
        have a1 := (a.hd.step e j)
        refine ⟨by show 2 ≤ sizeLine; decide, fun q hq => k _ _ (e.trans (Le.laid hq)) (a1.ok.laid hq).j ⟨(x, y), ⟨rfl, hy⟩, rp_pair (a1.at_new hq) (Rp.same (a1.grow hq) p1) (Rp.same (a1.grow hq) p2)⟩⟩
/-- the own things in another order -/
theorem At.permL {B : Bs} {g : Slots} {L L' : Ls} {s : L2.St} {H : Hp} (a : At B g L s H) (h : L.Perm L') : At B g L' s H := by
  have ev : vw B L' H = vw B L H := by
    have m : ∀ b, b ∈ L'.map (·.1) ++ B.A ↔ b ∈ L.map (·.1) ++ B.A := fun b => by
      rw [List.mem_append, List.mem_append]
      exact or_congr (h.map _).mem_iff.symm Iff.rfl
    show cut _ _ = cut _ _
    funext b
    by_cases hb : b ∈ L.map (·.1) ++ B.A
    · rw [cut_in hb, cut_in ((m b).mpr hb)]
    · rw [cut_out hb, cut_out fun z => hb ((m b).mp z)]
  exact ⟨⟨a.hd.ok, a.hd.le, fun q hq => a.hd.new q (h.mem_iff.mpr hq), (h.map _).nodup_iff.mp a.hd.nd, fun q hq => by rw [ev]; exact a.hd.lo q (h.mem_iff.mpr hq), fun q hq => by rw [ev]; exact a.hd.x q hq⟩, by rw [ev]; exact a.sg⟩
end G
namespace K29
open PySem PySem.Spec PyProof.Rows L2 G PySem.W TL
theorem block_len (row : List Str) (form : Str) : (blockOf row form).length ≤ row.length + 2 := by
  have l := linksS_len row
  unfold blockOf
  split
  · rw [List.length_append, l]
    show 1 + _ ≤ _
    omega
  · split
    · rw [List.length_append, l]
      show _ + 1 ≤ _
      omega
    · split
      · omega
      · rw [List.length_append, List.length_append, l]
        show 1 + _ + 1 ≤ _
        omega
theorem pop_perm {rh lf : List Str} {n : Nat} {y : Str} (h : lf[n]? = some y) : ((rh ++ [y]) ++ lf.eraseIdx n).Perm (rh ++ lf) := by
  rw [List.append_assoc]
  refine List.Perm.append_left rh ?_
  show (y :: lf.eraseIdx n).Perm lf
  obtain ⟨hn, e⟩ := List.getElem?_eq_some_iff.mp h
  rw [← e]
  rw [List.eraseIdx_eq_take_drop_succ]
  refine List.perm_middle.symm.trans ?_
  rw [List.getElem_cons_drop hn, List.take_append_drop]
/-- what is laid in one turn -/
structure TurnI (ns menu : List Str) (d : List NRow) (lo : List Str) (rh : List Str) (ls : List (List Str)) : Prop where
  lk : LinksI lo rh ls
  pk : ("short" : Str) ∉ menu → Picks rh ls
  fit : d.length + ls.length ≤ ns.length
  rl : rh.length ≤ 24
def PickM (menu : List Str) (d : List NRow) : Prop := ("short" : Str) ∉ menu → Pickable d
def LaidP (n : Nat) (menu : List Str) (p : List (Str × Tup Str) × List Int) : Prop := ∃ rows : List NRow, p.1 = rows.map dRow ∧ RowsOk rows ∧ 2 ≤ rows.length ∧ rows.length ≤ n ∧ PickM menu rows
/-- the state of the law's loop -/
structure LS where
  d : List NRow
  lo : List Str
  pl : Addr
  cs : List Int
  pr : Int
theorem LaidI.one {ns : List Str} {x : Str} (hn : NsOk ns.length ns) (h : ns[0]? = some x) : LaidI ns [(x, [])] [x] where
  part := ⟨RowsOk.one (hn.2.2 x (List.mem_of_getElem? h)), rfl, by
    have hl := (List.getElem?_eq_some_iff.mp h).1
    show [x] = ns.take (0 + 1)
    rw [List.take_succ_eq_append_getElem hl, List.take_zero, (List.getElem?_eq_some_iff.mp h).2]
    rfl⟩
  ne := List.cons_ne_nil _ _
  le := (List.getElem?_eq_some_iff.mp h).1
  nd := by simp
  sub := fun z hz => hz
  un := fun z _ h => by cases h
  lne := List.cons_ne_nil _ _
section
variable {P : Program} {w : World} {K : PySem.W.Frag} {mg : Str → Option Value} {base : Heap}
def NLlaid : List Str := ["_law_well_here", "_law_names_here", "_law_menu", "_law_most", "_law_top", "_law_rows", "_law_loose", "_law_counts", "_law_pairs", "_law_turn", "_law_form", "_law_left", "_law_row_here", "_law_k", "_law_links", "_law_some", "_law_name"]
theorem scLlaid : FnScope NLlaid ["_law_well_here", "_law_names_here", "_law_menu", "_law_most", "_law_top"] (defScope s_Llaid) := ⟨rfl, rfl, rfl, by decide +kernel, rfl, by decide +kernel, by decide +kernel⟩
abbrev spLlaid (K : PySem.W.Frag) : Sp := sp5 (fun W (wl : Addr) (ns : List Str) (menu : List Str) (_ top : Int) => W = Ww wl ∧ 2 ≤ ns.length ∧ ns.length ≤ 24 ∧ NsOk ns.length ns ∧ menu ≠ [] ∧ menu.length ≤ 8 ∧ 1 ≤ top) (fun wl : Addr => Vl (.ref wl)) (fun ns : List Str => Is K ns) (fun ms : List Str => Is K ms) (fun m : Int => Is K m) (fun m : Int => Is K m) fun _ ns menu _ _ => Ex K (LaidP ns.length menu)
theorem ok_Llaid (M : Md K mg) (cLdraw : Cal P w K mg base 1 "_law_draw" ["_law_well_here", "_law_many"] (spdraw K)) (cLblock : Cal P w K mg base 1 "_law_block" ["_law_row_here", "_law_form"] (spLblock K)) (cLways_in : Cal P w K mg base 1 "_law_ways_in" ["_law_form", "_law_many"] (spLways K)) : Cal P w K mg base 2 "_law_laid" ["_law_well_here", "_law_names_here", "_law_menu", "_law_most", "_law_top"] (spLlaid K) := by
  obtain ⟨fd, F⟩ := M.d_Llaid
  refine cal_mk F M.o_law_laid scLlaid (fun _ _ _ _ _ _ us hl => match us, hl with | [_, _, _, _, _], _ => rfl) (fun _ => rfl) rfl fun cdv A outer s W A' H i Q E hr1 hp ok hQ => ?_
  obtain ⟨wl, ns, menu, most, top⟩ := i
  obtain ⟨hW, h1, h2, h3, h4, h5, h6⟩ := hp
  have hW : W = Ww wl := hW
  have h1 : 2 ≤ ns.length := h1
  have h2 : ns.length ≤ 24 := h2
  have h3 : NsOk ns.length ns := h3
  have h4 : menu ≠ [] := h4
  have h5 : menu.length ≤ 8 := h5
  have h6 : 1 ≤ top := h6
  subst hW
  have hu := hr1.units
  have nd := scLlaid.nd
  refine ⟨_,     (pss_cons (ps_asg (pe_tup (pa_cons (pe_lst (pa_cons (pe_tup (pa_cons (pe_ix (k_ixL K) (pv 1) pe_int (fun _ _ => rfl)) (pa_cons (pe_tup pa_nil) pa_nil))) pa_nil)) (pa_cons (pe_lst (pa_cons (pe_ix (k_ixL K) (pv 1) pe_int (fun _ _ => rfl)) pa_nil)) (pa_cons (pe_lst pa_nil) (pa_cons pe_int pa_nil))))) (k_pg K (n := 4) (pgs_cons (pg_name (i := 5) nd rfl (Or.inl rfl)) (pgs_cons (pg_name (i := 6) nd rfl (Or.inl rfl)) (pgs_cons (pg_name (i := 7) nd rfl (Or.inl rfl)) (pgs_cons (pg_name (i := 8) nd rfl (Or.inl rfl)) pgs_nil))))))
    (pss_cons (ps_for PassesOwn.never rfl (pi_range1 (by rfl) M.mrange (pa_cons (pe_callB (k_len K) (by rfl) M.mlen PySem.boot_len (pa_cons (pv 1) pa_nil)) pa_nil)) (pg_name (i := 9) nd rfl (Or.inl rfl))
      (pss_cons (ps_if (pt_cmpR (k_eq K Int hu) (pe_callB (k_len K) (by rfl) M.mlen PySem.boot_len (pa_cons (pv 5) pa_nil)) (pe_callB (k_len K) (by rfl) M.mlen PySem.boot_len (pa_cons (pv 1) pa_nil)) (nomark _))
        (pss_cons (ps_break)
        pss_nil)
        pss_nil)
      (pss_cons (ps_asg (pe_tup (pa_cons (pe_ix (k_ixL K) (pv 2) (pe_cal cLdraw hr1 (by rfl) (pa_cons (pv 0) (pa_cons (pe_callB (k_len K) (by rfl) M.mlen PySem.boot_len (pa_cons (pv 2) pa_nil)) pa_nil))) (fun _ _ => rfl)) (pa_cons (pe_callTy (k_listOf K) (by rfl) M.mlist (by decide +kernel) (pa_cons (pv 6) pa_nil)) (pa_cons (pe_lst pa_nil) pa_nil)))) (k_pg K (n := 3) (pgs_cons (pg_name (i := 10) nd rfl (Or.inl rfl)) (pgs_cons (pg_name (i := 11) nd rfl (Or.inl rfl)) (pgs_cons (pg_name (i := 12) nd rfl (Or.inr rfl)) pgs_nil)))))
      (pss_cons (ps_for PassesOwn.never rfl (pi_range1 (by rfl) M.mrange (pa_cons (pe_op op_add pe_int (pe_cal cLdraw hr1 (by rfl) (pa_cons (pv 0) (pa_cons (pe_callB (call_min2 rfl) (by rfl) M.mmin (by decide +kernel) (pa_cons (pv 4) (pa_cons (pe_callB (k_len K) (by rfl) M.mlen PySem.boot_len (pa_cons (pv 6) pa_nil)) pa_nil))) pa_nil)))) pa_nil)) (pg_name (i := 13) nd rfl (Or.inl rfl))
        (pss_cons (ps_expr (k_bm K PySem.F.plainAttrs_list PySem.F.slot_list_append PySem.F.type_list_append mt_append (pv 12) (pa_cons (k_bm K PySem.F.plainAttrs_list PySem.F.slot_list_pop PySem.F.type_list_pop mt_popAt (pv 11) (pa_cons (pe_cal cLdraw hr1 (by rfl) (pa_cons (pv 0) (pa_cons (pe_callB (k_len K) (by rfl) M.mlen PySem.boot_len (pa_cons (pv 11) pa_nil)) pa_nil))) pa_nil)) pa_nil)))
        pss_nil))
      (pss_cons (ps_set (i := 14) nd rfl (Or.inl rfl) (pe_cal cLblock hr1 (by rfl) (pa_cons (pv 12) (pa_cons (pv 10) pa_nil))))
      (pss_cons (ps_if (PW.pt (pw_or (pt_cmpR op_gt (pe_op op_add (pe_callB (k_len K) (by rfl) M.mlen PySem.boot_len (pa_cons (pv 5) pa_nil)) (pe_callB (k_len K) (by rfl) M.mlen PySem.boot_len (pa_cons (pv 14) pa_nil))) (pe_callB (k_len K) (by rfl) M.mlen PySem.boot_len (pa_cons (pv 1) pa_nil)) (nomark _)) (pw_or1 (pt_cmpR op_gt (pe_op op_add (pv 8) (pe_callB (k_len K) (by rfl) M.mlen PySem.boot_len (pa_cons (pe_lc rfl nd (k_list K (pv 14)) (blkOk_by (N := NLlaid) (sc := defScope s_Llaid) (own := [("_law_some", 15)]) (by decide +kernel)) (fun _ _ _ _ _ => (pg_name (i := 15) nd rfl (Or.inl rfl))) (fun _ _ _ _ _ => (pts_one (pt_cmpR (k_eq K Int hu) (pe_callB (k_len K) (by rfl) M.mlen PySem.boot_len (pa_cons (pv 15) pa_nil)) pe_int (nomark _)))) (fun _ _ _ _ _ => (pv 15))) pa_nil))) (pv 3) (nomark _)))))
        (pss_cons (ps_asg (pe_tup (pa_cons pe_str (pa_cons (pe_slice (k_slL K) (pv 12) po_none (po_some pe_int)) (pa_cons (pe_lst (pa_cons (pe_tup (pa_cons (pe_ix (k_ixL K) (pv 12) pe_int (fun _ _ => rfl)) pa_nil)) pa_nil)) pa_nil)))) (k_pg K (n := 3) (pgs_cons (pg_name (i := 10) nd rfl (Or.inl rfl)) (pgs_cons (pg_name (i := 12) nd rfl (Or.inr rfl)) (pgs_cons (pg_name (i := 14) nd rfl (Or.inl rfl)) pgs_nil)))))
        pss_nil)
        pss_nil)
      (pss_cons (ps_if (pt_cmpR (k_eq K Int hu) (pe_cal cLdraw hr1 (by rfl) (pa_cons (pv 0) (pa_cons pe_int pa_nil))) pe_int (nomark _))
        (pss_cons (ps_set (i := 14) nd rfl (Or.inl rfl) (k_revL K (pv 14)))
        pss_nil)
        pss_nil)
      (pss_cons (ps_set (i := 8) nd rfl (Or.inl rfl) (pe_op op_add (pv 8) (pe_callB (k_len K) (by rfl) M.mlen PySem.boot_len (pa_cons (pe_lc rfl nd (k_list K (pv 14)) (blkOk_by (N := NLlaid) (sc := defScope s_Llaid) (own := [("_law_some", 15)]) (by decide +kernel)) (fun _ _ _ _ _ => (pg_name (i := 15) nd rfl (Or.inl rfl))) (fun _ _ _ _ _ => (pts_one (pt_cmpR (k_eq K Int hu) (pe_callB (k_len K) (by rfl) M.mlen PySem.boot_len (pa_cons (pv 15) pa_nil)) pe_int (nomark _)))) (fun _ _ _ _ _ => (pv 15))) pa_nil))))
      (pss_cons (ps_setLc (i := 6) rfl nd rfl rfl (sw_true rfl rfl rfl (by decide +kernel)) (k_list K (pv 6)) (blkOk_by (N := NLlaid) (sc := defScope s_Llaid) (own := [("_law_name", 16)]) (by decide +kernel)) (fun _ _ _ _ _ => (pg_name (i := 16) nd rfl (Or.inl rfl))) (fun _ _ _ _ _ => (pts_one (pt_cmpR (k_notIn K Str hu) (pv 16) (pv 12) rfl))) (fun _ _ _ _ _ => (pv 16)))
      (pss_cons (ps_for PassesOwn.never rfl (k_list K (pv 14)) (pg_name (i := 15) nd rfl (Or.inl rfl))
        (pss_cons (ps_expr (k_bm K PySem.F.plainAttrs_list PySem.F.slot_list_append PySem.F.type_list_append mt_append (pv 6) (pa_cons (pe_ix (k_ixL K) (pv 1) (pe_callB (k_len K) (by rfl) M.mlen PySem.boot_len (pa_cons (pv 5) pa_nil)) (fun _ _ => rfl)) pa_nil)))
        (pss_cons (ps_expr (k_bm K PySem.F.plainAttrs_list PySem.F.slot_list_append PySem.F.type_list_append mt_append (pv 5) (pa_cons (pe_tup (pa_cons (pe_ix (k_ixL K) (pv 1) (pe_callB (k_len K) (by rfl) M.mlen PySem.boot_len (pa_cons (pv 5) pa_nil)) (fun _ _ => rfl)) (pa_cons (pe_ifExp (pt_cmpR (k_eq K Int hu) (pe_cal cLdraw hr1 (by rfl) (pa_cons (pv 0) (pa_cons pe_int pa_nil))) pe_int (nomark _)) (pv 15) (k_revU K (pv 15))) pa_nil))) pa_nil)))
        pss_nil)))
      (pss_cons (ps_expr (k_bm K PySem.F.plainAttrs_list PySem.F.slot_list_append PySem.F.type_list_append mt_append (pv 7) (pa_cons (pe_cal cLways_in hr1 (by rfl) (pa_cons (pv 10) (pa_cons (pe_callB (k_len K) (by rfl) M.mlen PySem.boot_len (pa_cons (pv 12) pa_nil)) pa_nil))) pa_nil)))
      pss_nil)))))))))))
    (pss_cons (ps_ret (pe_tup (pa_cons (pv 5) (pa_cons (pv 7) pa_nil))))
    pss_nil))), ?_⟩
  dsimp only [cxOf, Cx.nox, Cx.wish]
  show YS ⟨Ww wl, A', H, []⟩ [some (Vl (.ref wl)), some (Is K ns), some (Is K menu), some (Is K most), some (Is K top), none, none, none, none, none, none, none, none, none, none, none, none] [] _ _
  obtain ⟨n0, hn0⟩ : ∃ n0, ns[0]? = some n0 := ⟨ns[0], List.getElem?_eq_getElem (by omega)⟩
  have at0 : atI ns (0 : Int) = some n0 := atI_nat (xs := ns) (j := 0) hn0
  have pick : ∀ (l : List Str) (i : Int), (0 ≤ i ∧ i < (l.length : Int)) → ∃ z, atI l i = some z ∧ z ∈ l := fun l i h => by
    have hn : i.toNat < l.length := by omega
    have e := atI_nat (xs := l) (j := i.toNat) (List.getElem?_eq_getElem hn)
    rw [show ((i.toNat : Nat) : Int) = i by omega] at e
    exact ⟨_, e, List.getElem_mem hn⟩
  refine ys_tup4 (O1 := oNew K (· = [dRow (n0, [])])) (O2 := oNew K (· = [n0])) (O3 := oNew K (· = ([] : List Int))) (O4 := oDat (Is K (0 : Int))) (YF.o (yf_lst (yi_cons (y_pair (y_ixL (Y.q (y_var rfl)) (Y.loose y_int) at0) (y_tupU yi_nil (Nat.zero_le _))) yi_nil) (by show 1 ≤ sizeLine; decide))) (fun u L1 _ => YF.o (yf_lst (yi_cons (y_ixL (Y.q (y_var rfl)) (Y.loose y_int) at0) yi_nil) (by show 1 ≤ sizeLine; decide))) (fun t L1 u L2 _ _ => YF.o (yf_lst yi_nil (Nat.zero_le _))) (fun t L1 u L2 w L3 _ _ _ => Y.o y_int) ?_
  rintro _ _ _ _ _ _ _ _ ⟨p, _, rfl, rfl, rfl⟩ ⟨q, _, rfl, rfl, rfl⟩ ⟨c, _, rfl, rfl, rfl⟩ ⟨rfl, rfl⟩
  have fin : ∀ X (d : List NRow) (cs : List Int) (pr : Int), RowsOk d → 2 ≤ d.length → d.length ≤ ns.length → PickM menu d → YS ((⟨Ww wl, A', H, []⟩ : Bs).x X) [some (Vl (.ref wl)), some (Is K ns), some (Is K menu), some (Is K most), some (Is K top), some (Vl (.ref p)), none, some (Vl (.ref c)), some (Is K pr), none, none, none, none, none, none, none, none] [(c, LoL K cs), (p, LoL K (d.map dRow))] (tSeq (tRet (tTup (tCons (tVar 5) (tCons (tVar 7) tNil)))) tNext) { nx := fun _ H' => Q .non H', rt := Q } := fun X d cs pr ro l2 ln pm => by
    refine ys_free (L1 := []) (L2 := [(p, LoL K (d.map dRow))]) (i := 7) rfl ?_
    refine ys_free (L1 := []) (L2 := []) (i := 5) rfl ?_
    exact ys_ret (t := Ex K (LaidP ns.length menu)) ((y_pair (y_var rfl : Y _ _ _ _ (Is K (d.map dRow))) (y_var rfl : Y _ _ _ _ (Is K cs))).ex ⟨d, rfl, ro, l2, ln, pm⟩) hQ
  refine ys_forB K (ι := LS) (xs := rngI 0 ((ns.length : Int)).toNat) (us := fun _ x => [(9, Is K x)]) (fun k v => LaidI ns v.d v.lo ∧ PickM menu v.d ∧ k + 1 ≤ v.d.length ∧ v.cs.length = k) (fun v => [some (Vl (.ref wl)), some (Is K ns), some (Is K menu), some (Is K most), some (Is K top), some (Vl (.ref p)), some (Vl (.ref v.pl)), some (Vl (.ref c)), some (Is K v.pr), none, none, none, none, none, none, none, none]) (fun v => [(c, LoL K v.cs), (v.pl, LoL K v.lo), (p, LoL K (v.d.map dRow))]) ?_ ?_ ?_ ?_ ?_
  · exact yi_range1 (yal_cons (Y.loose (y_lenL (Y.loose (y_var rfl)))) yal_nil) (by omega) (by omega)
  · refine ⟨⟨[(n0, [])], [n0], q, [], 0⟩, ⟨LaidI.one h3 hn0, fun _ => Pickable.one, Nat.le_refl _, rfl⟩, Wk1.refl _, List.Sublist.refl _⟩
  · exact fun X d x _ => yg_name
  · rintro X k ⟨d, lo, pl, cs, pr⟩ x hx ⟨hL, hP, hk, hc⟩
    have hL : LaidI ns d lo := hL
    have hP : PickM menu d := hP
    have hk : k + 1 ≤ d.length := hk
    have hc : cs.length = k := hc
    have dl := hL.le
    have lol : lo.length ≤ d.length := by
      have := sub_len hL.nd hL.sub
      rwa [List.length_map] at this
    have lop : 0 < lo.length := List.length_pos_iff.mpr hL.lne
    have ro := hL.part.ro
    refine ys_if (c := decide (((d.map dRow).length : Int) = (ns.length : Int))) (yt_test (K := K) (Y.loose (y_eqT (Y.loose (y_lenL (yq_loc (j := 2) rfl rfl).loose)) (Y.loose (y_lenL (Y.loose (y_var rfl))))))) (fun h => ?_) fun h => ys_then ?_
    · refine ys_break fun s H a => fin X d cs pr ro ?_ dl hP s H ?_
      · have h := of_decide_eq_true h
        rw [List.length_map] at h
        omega
      · have a := a.rel (L' := [(c, LoL K cs), (p, LoL K (d.map dRow))]) (.cons_cons _ (.cons _ (List.Sublist.refl _)))
        exact a.weak (.keep (.keep (.keep (.keep (.keep (.keep (.drop (.keep (.keep (.drop (.keep (.keep (.keep (.keep (.keep (.keep (.keep .nil)))))))))))))))))
    have hlt : d.length < ns.length := by
      have h := of_decide_eq_false h
      rw [List.length_map] at h
      omega
    have ml : 0 < (menu.length : Int) := by have := List.length_pos_iff.mpr h4; omega
    refine ys_tup3 (O1 := oEx K fun f => f ∈ menu) (O2 := oNew K (· = lo)) (O3 := oNew K (· = ([] : List Str))) (Y.oe (Y.exm (y_ixLE (Y.q (y_var rfl)) (Y.loose (y_draw rfl (ya_cons (y_var rfl) (ya_cons (y_lenL (Y.loose (y_var rfl))) ya_nil)) ml (by omega))) fun i hi => (pick menu i hi).imp fun z h => h.1) fun z ⟨i, hi, e⟩ => ?_)) (fun u L1 o => ?_) (fun t L1 u L2 o1 o2 => YF.o (yf_lst yi_nil (Nat.zero_le _))) ?_
    · obtain ⟨z', e', m⟩ := pick menu i hi
      rw [e] at e'
      cases e'
      exact m
    · obtain ⟨form, _, rfl, rfl⟩ := o
      exact YF.o (yf_listL (yq_loc (j := 1) rfl rfl))
    rintro _ _ _ _ _ _ ⟨form, hform, rfl, rfl⟩ ⟨pf, lo1, elo, rfl, rfl⟩ ⟨ph, _, rfl, rfl, rfl⟩
    have elo : lo = lo1 := Eq.symm elo
    subst elo
    refine ys_fromE (K := K) (A := fun j => 1 ≤ j ∧ j ≤ (lo.length : Int)) (xs := fun j => rngI 0 j.toNat) (yi_range1E (P := fun _ => True) (yal_cons (Y.loose (Y.exm (y_opIE (f := fun i j => i + j) (Y.loose (y_int.ex (A := fun z => z = 1) rfl)) (Y.loose (y_draw (m := if (lo.length : Int) < top then (lo.length : Int) else top) rfl (ya_cons (y_var rfl) (ya_cons (y_min2 (Y.loose (y_var rfl)) (Y.loose (y_lenL (yq_loc (j := 3) rfl rfl).loose))) ya_nil)) (by split <;> omega) (by split <;> omega)))) fun z hz => ?_)) yal_nil) fun j hj => by omega) ?_
    · obtain ⟨i, j, e1, e2, e3⟩ := hz
      have e2 : 0 ≤ j ∧ j < if (lo.length : Int) < top then (lo.length : Int) else top := e2
      split at e2 <;> omega
    rintro j wi' hj hwi
    refine ys_forB K (ι := List Str × List Str) (xs := rngI 0 j.toNat) (us := fun _ x => [(13, Is K x)]) (fun k r => (r.1 ++ r.2).Perm lo ∧ r.1.length = k) (fun _ => [some (Vl (.ref wl)), some (Is K ns), some (Is K menu), some (Is K most), some (Is K top), some (Vl (.ref p)), some (Vl (.ref pl)), some (Vl (.ref c)), some (Is K pr), none, some (Is K form), some (Vl (.ref pf)), some (Vl (.ref ph)), none, none, none, none]) (fun r => [(ph, LoL K r.1), (pf, LoL K r.2), (c, LoL K cs), (pl, LoL K lo), (p, LoL K (d.map dRow))]) hwi ?_ ?_ ?_ ?_
    · exact ⟨([], lo), ⟨List.Perm.refl _, rfl⟩, .keep (.keep (.keep (.keep (.keep (.keep (.keep (.keep (.keep (.drop (.keep (.keep (.keep (.keep (.keep (.keep (.keep .nil)))))))))))))))), List.Sublist.refl _⟩
    · exact fun X d x _ => yg_name
    · rintro X2 m ⟨rh, lf⟩ y hy ⟨pm, rl⟩
      have pm : (rh ++ lf).Perm lo := pm
      have rl : rh.length = m := rl
      have hm := (rngI_at hy).1
      have pl2 := pm.length_eq
      rw [List.length_append] at pl2
      refine ys_appPop (i := 12) (j := 0) (i2 := 11) (j2 := 1) (xs := rh) (ys := lf) (A := fun n => 0 ≤ n ∧ n < (lf.length : Int)) rfl rfl rfl rfl (by decide) (y_draw rfl (ya_cons (y_var rfl) (ya_cons (y_lenL (yq_loc (j := 1) rfl rfl).loose) ya_nil)) (by omega) (by omega)) (by rw [sizeLine_eq]; omega) (fun n hn => hn) (by omega) fun n y _ hn => ys_next fun s H a => ⟨(rh ++ [y], lf.eraseIdx n), ⟨(pop_perm hn).trans pm, by rw [List.length_append, rl]; rfl⟩, ?_⟩
      exact a.weak (.keep (.keep (.keep (.keep (.keep (.keep (.keep (.keep (.keep (.keep (.keep (.keep (.keep (.drop (.keep (.keep (.keep .nil)))))))))))))))))
    rintro ⟨rh, lf⟩ ⟨pm, rl⟩
    have pm : (rh ++ lf).Perm lo := pm
    have rl : rh.length = (rngI 0 j.toNat).length := rl
    rw [rngI_length] at rl
    have hne : rh ≠ [] := fun e => by rw [e] at rl; simp at rl; omega
    have hnd : rh.Nodup := (List.nodup_append.mp (pm.nodup_iff.mpr hL.nd)).1
    have hsub : ∀ z, z ∈ rh → z ∈ lo := fun z hz => pm.mem_iff.mp (List.mem_append_left _ hz)
    have rl2 := sub_len hnd hsub
    refine ys_free (L1 := []) (L2 := [(pf, LoL K lf), (c, LoL K cs), (pl, LoL K lo), (p, LoL K (d.map dRow))]) (i := 12) rfl ?_
    have at1 : atI rh (0 : Int) = some (rh.headD stD) := headS_at hne
    have bl := block_len rh form
    refine ys_setD (t := Is K ((blockOf rh form).map Tup.mk)) (y_call2 (x := rh) (y := form) (ya_cons (y_var rfl) (ya_cons (y_var rfl) ya_nil)) ⟨hne, by omega⟩) ?_
    refine ys_keyB (V := Str × List Str × List (List Str)) (A := fun u => TurnI ns menu d lo u.2.1 u.2.2) (g' := fun u => [some (Vl (.ref wl)), some (Is K ns), some (Is K menu), some (Is K most), some (Is K top), some (Vl (.ref p)), some (Vl (.ref pl)), some (Vl (.ref c)), some (Is K pr), none, some (Is K u.1), none, some (Is K u.2.1), none, some (Is K (u.2.2.map Tup.mk)), none, none]) (L' := fun _ => [(c, LoL K cs), (pl, LoL K lo), (p, LoL K (d.map dRow))]) ?_ fun key => ?_
    · rintro ⟨form, rh, ls⟩ tI
      have tI : TurnI ns menu d lo rh ls := tI
      refine ys_keyB (V := List (List Str)) (A := fun u => TurnI ns menu d lo rh u) (g' := fun u => [some (Vl (.ref wl)), some (Is K ns), some (Is K menu), some (Is K most), some (Is K top), some (Vl (.ref p)), some (Vl (.ref pl)), some (Vl (.ref c)), some (Is K pr), none, some (Is K form), none, some (Is K rh), none, some (Is K (u.map Tup.mk)), none, none]) (L' := fun _ => [(c, LoL K cs), (pl, LoL K lo), (p, LoL K (d.map dRow))]) ?_ fun key2 => ?_
      · rintro ls tI
        have tI : TurnI ns menu d lo rh ls := tI
        have ll : ls.length ≤ 24 := by have := tI.fit; omega
        refine ys_setD (t := Is K (pr + ((((ls.map Tup.mk).filter fun y : Tup Str => decide ((y.items.length : Int) = 2)).map id).length : Int))) (y_opI (f := fun i j => i + j) (Y.loose (y_var rfl)) (Y.loose (y_lenL (Y.loose (YF.dat (yf_lc (vs := [15]) (xs := ls.map Tup.mk) (us := fun y => [(15, Is K y)]) (c := fun y : Tup Str => decide ((y.items.length : Int) = 2)) (f := id) (yi_list (y_var rfl)).loose (by rw [List.length_map, sizeLine_eq]; omega) (fun D y _ => yg_name) (fun y _ i hi => by simpa using hi) (fun D y _ => yt_test (K := K) (Y.loose (y_eqT (Y.loose (y_lenU (xs := y.items) (Y.loose (y_var rfl)))) (Y.loose y_int)))) (fun D y _ _ => y_var rfl))))))) ?_
        generalize pr + ((((ls.map Tup.mk).filter fun y : Tup Str => decide ((y.items.length : Int) = 2)).map id).length : Int) = pr2
        refine ys_set (O := oNew K (· = lo.filter fun z => !inB z rh)) (YF.o (YF.to (yf_lc (vs := [16]) (xs := lo) (us := fun y => [(16, Is K y)]) (c := fun z => !inB z rh) (f := id) (yil_list (yq_loc (j := 1) rfl rfl)) (by rw [sizeLine_eq]; omega) (fun D y _ => yg_name) (fun y _ i hi => by simpa using hi) (fun D y _ => yt_test (K := K) (Y.loose (y_notInT (Y.loose (y_var rfl)) (Y.loose (y_var rfl))))) (fun D y _ _ => y_var rfl)) (List.map_id _))) ?_
        rintro _ _ ⟨pn, lo2, elo2, rfl, rfl⟩
        have elo2 : lo2 = lo.filter fun z => !inB z rh := elo2
        refine ys_forB K (ι := List NRow) (xs := ls.map Tup.mk) (us := fun _ y => [(15, Is K y)]) (fun j e => NewI ns d ls j e) (fun _ => [some (Vl (.ref wl)), some (Is K ns), some (Is K menu), some (Is K most), some (Is K top), some (Vl (.ref p)), some (Vl (.ref pn)), some (Vl (.ref c)), some (Is K pr2), none, some (Is K form), none, some (Is K rh), none, none, none, none]) (fun e => [(pn, LoL K (lo2 ++ e.map (·.1))), (c, LoL K cs), (p, LoL K ((d ++ e).map dRow))]) (yi_list (y_var rfl)) ?_ ?_ ?_ ?_
        · refine ⟨[], NewI.zero hL.part, .keep (.keep (.keep (.keep (.keep (.keep (.keep (.keep (.keep (.keep (.keep (.keep (.keep (.keep (.drop (.keep (.keep .nil)))))))))))))))), ?_⟩
          rw [List.append_nil, List.map_nil, List.append_nil]
          exact .cons_cons _ (.cons_cons _ (.cons _ (List.Sublist.refl _)))
        · exact fun X d x _ => yg_name
        · rintro X3 j e y hy hN
          have hN : NewI ns d ls j e := hN
          rw [List.getElem?_map] at hy
          obtain ⟨l, hl, rfl⟩ : ∃ l, ls[j]? = some l ∧ y = Tup.mk l := by
            cases e : ls[j]? with
            | none => rw [e] at hy; cases hy
            | some l => rw [e] at hy; cases hy; exact ⟨l, rfl, rfl⟩
          have jl := (List.getElem?_eq_some_iff.mp hl).1
          have el := hN.len
          have fit := tI.fit
          obtain ⟨nm, hnm⟩ : ∃ nm, ns[d.length + j]? = some nm := ⟨ns[d.length + j]'(by omega), List.getElem?_eq_getElem (by omega)⟩
          have atn : atI ns (((d ++ e).map dRow).length : Int) = some nm := by
            rw [List.length_map, List.length_append, el]
            exact atI_nat (xs := ns) (j := d.length + j) hnm
          have lo2l : lo2.length ≤ lo.length := by rw [elo2]; exact List.length_filter_le _ _
          refine ys_append (i := 6) (j := 0) (xs := lo2 ++ e.map (·.1)) (x := nm) rfl rfl (y_ixL (Y.q (y_var rfl)) (Y.loose (y_lenL (yq_loc (j := 2) rfl rfl).loose)) atn) (by rw [List.length_append, List.length_map, sizeLine_eq]; omega) ?_
          refine ys_appendE (i := 5) (j := 2) (xs := (d ++ e).map dRow) (A := fun z : Str × Tup Str => z.1 = nm ∧ (z.2 = Tup.mk l ∨ z.2 = Tup.mk l.reverse)) rfl rfl (y_pairE (A := fun t : Tup Str => t = Tup.mk l ∨ t = Tup.mk l.reverse) (y_ixL (Y.q (y_var rfl)) (Y.loose (y_lenL (yq_loc (j := 2) rfl rfl).loose)) atn) (y_ifP (C := fun _ => True) ((yp_test (K := K) (Y.loose (y_eqTE (b := (0 : Int)) (Y.loose (y_draw (m := 2) rfl (ya_cons (y_var rfl) (ya_cons y_int ya_nil)) (by decide) (by decide))) (Y.loose y_int)))).imp fun _ _ => trivial) (fun _ => (y_var rfl : Y _ _ _ _ (Is K (Tup.mk l))).ex (.inl rfl)) fun _ => (y_revU (y_var rfl)).ex (.inr rfl))) (by rw [List.length_map, List.length_append, sizeLine_eq]; omega) fun z hz => ?_
          obtain ⟨l', hr, rfl⟩ : ∃ l', (l' = l ∨ l' = l.reverse) ∧ z = dRow (nm, l') := by
            obtain ⟨e1, e2 | e2⟩ := hz
            · exact ⟨l, .inl rfl, Prod.ext e1 e2⟩
            · exact ⟨l.reverse, .inr rfl, Prod.ext e1 e2⟩
          refine ys_next fun s H a => ⟨e ++ [(nm, l')], hN.more h3 h2 hL tI.lk hl hnm hr, ?_⟩
          show At _ _ [(pn, LoL K (lo2 ++ (e ++ [(nm, l')]).map (·.1))), (c, LoL K cs), (p, LoL K ((d ++ (e ++ [(nm, l')])).map dRow))] s H
          have e1 : lo2 ++ (e ++ [(nm, l')]).map (·.1) = (lo2 ++ e.map (·.1)) ++ [nm] := by rw [List.map_append, List.append_assoc]; rfl
          have e2 : (d ++ (e ++ [(nm, l')])).map dRow = (d ++ e).map dRow ++ [dRow (nm, l')] := by rw [← List.append_assoc, List.map_append (l₁ := d ++ e)]; rfl
          rw [e1, e2]
          exact a.weak (.keep (.keep (.keep (.keep (.keep (.keep (.keep (.keep (.keep (.keep (.keep (.keep (.keep (.keep (.keep (.drop (.keep .nil)))))))))))))))))
        · rintro e hN
          rw [List.length_map] at hN
          have hN : NewI ns d ls ls.length e := hN
          refine ys_appendE (i := 7) (j := 1) (xs := cs) (A := fun _ => True) rfl rfl (y_call2 (x := form) (y := (rh.length : Int)) (ya_cons (y_var rfl) (ya_cons (y_lenL (Y.loose (y_var rfl))) ya_nil)) trivial) (by rw [sizeLine_eq]; omega) fun z _ => ?_
          have fit := tI.fit
          have lp : 0 < ls.length := List.length_pos_iff.mpr tI.lk.ne
          refine ys_next fun s H a => ⟨⟨d ++ e, lo2 ++ e.map (·.1), pn, cs ++ [z], pr2⟩, ⟨?_, fun hs => Pickable.next hL tI.lk hN (hP hs) (tI.pk hs), ?_, ?_⟩, ?_⟩
          · show LaidI ns (d ++ e) (lo2 ++ e.map (·.1))
            rw [elo2]
            exact hL.next tI.lk hN fit
          · show k + 1 + 1 ≤ (d ++ e).length
            rw [List.length_append, hN.len]
            omega
          · show (cs ++ [z]).length = k + 1
            rw [List.length_append, hc]
            rfl
          · have a := a.permL (L' := [(c, LoL K (cs ++ [z])), (pn, LoL K (lo2 ++ e.map (·.1))), (p, LoL K ((d ++ e).map dRow))]) (.swap _ _ _)
            exact a.weak (.keep (.keep (.keep (.keep (.keep (.keep (.keep (.keep (.keep (.drop (.drop (.drop (.drop (.drop (.drop (.keep (.keep .nil)))))))))))))))))
      · refine ys_ifP (C := fun _ => True) ((yp_test (K := K) (Y.loose (y_eqTE (b := (0 : Int)) (Y.loose (y_draw rfl (ya_cons (y_var rfl) (ya_cons y_int ya_nil)) (by decide) (by decide))) (Y.loose y_int)))).imp fun _ _ => trivial) (fun _ => ?_) fun _ => ys_then (key2 ls tI)
        refine ys_setD (t := Is K (ls.reverse.map Tup.mk)) (YF.dat (YF.to (yf_revL (Y.q (y_var rfl))) List.map_reverse.symm)) (ys_then (key2 ls.reverse ?_))
        exact ⟨tI.lk.rev, fun hf => (tI.pk hf).rev, by rw [List.length_reverse]; exact tI.fit, tI.rl⟩
    · have key' : ∀ u : Str × List Str × List (List Str), TurnI ns menu d lo u.2.1 u.2.2 → YS _ [some (Vl (.ref wl)), some (Is K ns), some (Is K menu), some (Is K most), some (Is K top), some (Vl (.ref p)), some (Vl (.ref pl)), some (Vl (.ref c)), some (Is K pr), none, some (Is K u.1), some (Vl (.ref pf)), some (Is K u.2.1), none, some (Is K (u.2.2.map Tup.mk)), none, none] [(pf, LoL K lf), (c, LoL K cs), (pl, LoL K lo), (p, LoL K (d.map dRow))] _ _ := fun u h => ys_rel (ys_weak (key u h) (.keep (.keep (.keep (.keep (.keep (.keep (.keep (.keep (.keep (.keep (.keep (.drop (.keep (.keep (.keep (.keep (.keep .nil)))))))))))))))))) (.cons _ (List.Sublist.refl _))
      refine ys_if (c := decide ((ns.length : Int) < ((d.map dRow).length : Int) + (((blockOf rh form).map Tup.mk).length : Int)) || decide (most < pr + (((((blockOf rh form).map Tup.mk).filter fun y : Tup Str => decide ((y.items.length : Int) = 2)).map id).length : Int))) ?_ (fun h => ?_) fun h => ys_then (key' (form, rh, blockOf rh form) ?_)
      · refine yt_or (yt_test (K := K) (Y.loose (y_opB (f := fun i j => decide (j < i)) (Y.loose (y_opI (f := fun i j => i + j) (Y.loose (y_lenL (yq_loc (j := 3) rfl rfl).loose)) (Y.loose (y_lenL (Y.loose (y_var rfl)))))) (Y.loose (y_lenL (Y.loose (y_var rfl))))))) fun _ => yt_test (K := K) (Y.loose (y_opB (f := fun i j => decide (j < i)) (Y.loose (y_opI (f := fun i j => i + j) (Y.loose (y_var rfl)) (Y.loose (y_lenL (Y.loose (YF.dat (yf_lc (vs := [15]) (xs := (blockOf rh form).map Tup.mk) (us := fun y => [(15, Is K y)]) (c := fun y : Tup Str => decide ((y.items.length : Int) = 2)) (f := id) (yi_list (y_var rfl)).loose (by rw [List.length_map, sizeLine_eq]; omega) (fun D y _ => yg_name) (fun y _ i hi => by simpa using hi) (fun D y _ => yt_test (K := K) (Y.loose (y_eqT (Y.loose (y_lenU (xs := y.items) (Y.loose (y_var rfl)))) (Y.loose y_int)))) (fun D y _ _ => y_var rfl))))))) ) (Y.loose (y_var rfl))))
      · refine ys_tup3 (O1 := oDat (Is K ("even" : Str))) (O2 := oDat (Is K (rh.take 1))) (O3 := oDat (Is K ([Tup.mk [rh.headD stD]] : List (Tup Str)))) (Y.o y_str) (fun u L1 o => ?_) (fun t L1 u L2 o1 o2 => ?_) ?_
        · obtain ⟨rfl, rfl⟩ := o
          exact Y.o (YF.dat (YF.to (yf_slL (Y.q (y_var rfl)) yo_no (yo_some (K := K) (Y.loose (y_int (i := 1))))) (cutL_take (n := 1))))
        · obtain ⟨rfl, rfl⟩ := o1
          obtain ⟨rfl, rfl⟩ := o2
          exact Y.o (YF.dat (yf_lst (yi_cons (y_tupU (yi_cons (y_ixL (Y.q (y_var rfl)) (Y.loose y_int) at1) yi_nil) (by show 1 ≤ sizeLine; decide)) yi_nil) (by show 1 ≤ sizeLine; decide)))
        rintro _ _ _ _ _ _ ⟨rfl, rfl⟩ ⟨rfl, rfl⟩ ⟨rfl, rfl⟩
        refine ys_then (key' ("even", rh.take 1, [[rh.headD stD]]) ?_)
        have e1 : rh.take 1 = [rh.headD stD] := by
          cases rh with
          | nil => exact absurd rfl hne
          | cons a r => rfl
        have ne1 : [rh.headD stD] ≠ [] := List.cons_ne_nil _ _
        have nd1 : [rh.headD stD].Nodup := by simp
        show TurnI ns menu d lo (rh.take 1) [[rh.headD stD]]
        rw [e1]
        refine ⟨⟨fun l hl => by rw [List.mem_singleton.mp hl]; exact link_one (List.mem_singleton.mpr rfl), fun z => ?_, List.cons_ne_nil _ _, fun z hz => ?_⟩, fun _ => block_picks (row := [rh.headD stD]) ne1 (form := "even") (by decide), by show d.length + 1 ≤ ns.length; omega, by show 1 ≤ 24; decide⟩
        · exact block_cnt ne1 nd1 "even" z
        · rw [List.mem_singleton.mp hz]
          exact hsub _ (head_mem hne)
      · have h := (Bool.or_eq_false_iff.mp h).1
        have h := of_decide_eq_false h
        rw [List.length_map, List.length_map] at h
        exact ⟨⟨block_links hne hnd form, block_cnt hne hnd form, block_ne hne form, hsub⟩, fun hf => block_picks hne fun e => hf (by rw [← e]; exact hform), by show d.length + (blockOf rh form).length ≤ ns.length; omega, by show rh.length ≤ 24; omega⟩
  · rintro ⟨d, lo, pl, cs, pr⟩ ⟨hL, hP, hk, hc⟩
    have hL : LaidI ns d lo := hL
    have hP : PickM menu d := hP
    have hk : (rngI 0 ((ns.length : Int)).toNat).length + 1 ≤ d.length := hk
    rw [rngI_length] at hk
    refine ys_rel (ys_weak (fin [] d cs pr hL.part.ro (by have := hL.le; omega) hL.le hP) (.keep (.keep (.keep (.keep (.keep (.keep (.drop (.keep (.keep (.keep (.keep (.keep (.keep (.keep (.keep (.keep (.keep .nil)))))))))))))))))) (.cons_cons _ (.cons _ (List.Sublist.refl _)))
end
end K29
set_option Elab.async false
set_option linter.all false
set_option maxRecDepth 100000
set_option maxHeartbeats 4000000
/-! The law's defs: a drawn web. -/
namespace G
open PySem PySem.Spec PyProof.Rows L2 PySem.W
theorem ys_asgE {K : PySem.W.Frag} {B : Bs} {g : Slots} {L : Ls} {te : TE} {gt : TG} {D : Ends} {rest : TS} {α : Type} [DecidableEq α] [Datum α] {A : α → Prop} {us : α → List (Nat × Sl)} (h : Y B g L te (Ex K A)) (hg : ∀ x, YG B L gt (Is K x) (us x)) (k : ∀ x, A x → YS B (setg g (us x)) L rest D) : YS B g L (tSeq (tAsg te gt) rest) D := fun s H a => h s H a _ fun v H' e j ⟨x, hx, p⟩ =>
  hg x s H' v (a.step e j).hd p _ fun ws q => k x hx _ H' ⟨(a.step e j).hd, Sg.sets (a.step e j).sg q⟩
end G
namespace K29
open PySem PySem.Spec PyProof.Rows L2 G PySem.W TL
section
variable {P : Program} {w : World} {K : PySem.W.Frag} {mg : Str → Option Value} {base : Heap}
def NLweb : List Str := ["_law_well_here", "_law_many", "_law_most", "_law_names_here", "_law_menu", "_law_rows", "_law_counts"]
theorem scLweb : FnScope NLweb ["_law_well_here", "_law_many", "_law_most"] (defScope s_Lweb) := ⟨rfl, rfl, rfl, by decide +kernel, rfl, by decide +kernel, by decide +kernel⟩
abbrev spLweb (K : PySem.W.Frag) : Sp := sp3 (fun W (wl : Addr) (m : Int) (_ : Int) => W = Ww wl ∧ 2 ≤ m ∧ m ≤ 24) (fun wl : Addr => Vl (.ref wl)) (fun m : Int => Is K m) (fun m : Int => Is K m) fun _ m _ => Ex K (RowsD m.toNat)
theorem ok_Lweb (M : Md K mg) (cLdraw : Cal P w K mg base 1 "_law_draw" ["_law_well_here", "_law_many"] (spdraw K)) (cLnames : Cal P w K mg base 2 "_law_names" ["_law_well_here", "_law_many"] (spLnames K)) (cLfree : Cal P w K mg base 2 "_law_free" ["_law_well_here", "_law_names_here", "_law_most"] (spLfree K)) (cLlaid : Cal P w K mg base 2 "_law_laid" ["_law_well_here", "_law_names_here", "_law_menu", "_law_most", "_law_top"] (spLlaid K)) : Cal P w K mg base 3 "_law_web" ["_law_well_here", "_law_many", "_law_most"] (spLweb K) := by
  obtain ⟨fd, F⟩ := M.d_Lweb
  refine cal_mk F M.o_law_web scLweb (fun _ _ _ _ _ _ us hl => match us, hl with | [_, _, _], _ => rfl) (fun _ => rfl) rfl fun cdv A outer s W A' H i Q E hr2 hp ok hQ => ?_
  obtain ⟨wl, m, most⟩ := i
  obtain ⟨hW, h1, h2⟩ := hp
  have hW : W = Ww wl := hW
  have h1 : 2 ≤ m := h1
  have h2 : m ≤ 24 := h2
  subst hW
  have hu := hr2.units
  have hr1 := hr2.mono (j := 1) (by decide)
  have nd := scLweb.nd
  refine ⟨_,     (pss_cons (ps_set (i := 3) nd rfl (Or.inl rfl) (pe_cal cLnames hr2 (by rfl) (pa_cons (pv 0) (pa_cons (pv 1) pa_nil))))
    (pss_cons (ps_if (pt_cmpR (k_eq K Int hu) (pe_cal cLdraw hr1 (by rfl) (pa_cons (pv 0) (pa_cons pe_int pa_nil))) pe_int (nomark _))
      (pss_cons (ps_ret (pe_cal cLfree hr2 (by rfl) (pa_cons (pv 0) (pa_cons (pv 3) (pa_cons (pv 2) pa_nil)))))
      pss_nil)
      pss_nil)
    (pss_cons (ps_set (i := 4) nd rfl (Or.inl rfl) (pe_lst (pa_cons pe_str (pa_cons pe_str (pa_cons pe_str (pa_cons pe_str (pa_cons pe_str (pa_cons pe_str (pa_cons pe_str (pa_cons pe_str pa_nil))))))))))
    (pss_cons (ps_asg (pe_cal cLlaid hr2 (by rfl) (pa_cons (pv 0) (pa_cons (pv 3) (pa_cons (pv 4) (pa_cons (pv 2) (pa_cons pe_int pa_nil)))))) (k_pg K (n := 2) (pgs_cons (pg_name (i := 5) nd rfl (Or.inl rfl)) (pgs_cons (pg_name (i := 6) nd rfl (Or.inl rfl)) pgs_nil))))
    (pss_cons (ps_ret (pv 5))
    pss_nil))))), ?_⟩
  dsimp only [cxOf, Cx.nox, Cx.wish]
  show YS ⟨Ww wl, A', H, []⟩ [some (Vl (.ref wl)), some (Is K m), some (Is K most), none, none, none, none] [] _ _
  refine ys_setE (A := fun ns : List Str => NsOk m.toNat ns) (y_call2 (x := wl) (y := m) (ya_cons (y_var rfl) (ya_cons (y_var rfl) ya_nil)) ⟨rfl, by omega, h2⟩) fun ns hns => ?_
  have nl : ns.length = m.toNat := hns.1
  have hn2 : NsOk ns.length ns := by rw [nl]; exact hns
  refine ys_ifP (C := fun _ => True) ((yp_test (K := K) (Y.loose (y_eqTE (b := (0 : Int)) (Y.loose (y_draw (m := 3) rfl (ya_cons (y_var rfl) (ya_cons y_int ya_nil)) (by decide) (by decide))) (Y.loose y_int)))).imp fun _ _ => trivial) (fun _ => ?_) fun _ => ys_then ?_
  · refine ys_ret (t := Ex K (RowsD m.toNat)) ((y_call3 (x := wl) (y := ns) (z := most) (ya_cons (y_var rfl) (ya_cons (y_var rfl) (ya_cons (y_var rfl) ya_nil))) ⟨rfl, by omega, by omega, hn2⟩).imp fun _ _ h => ?_) hQ
    rw [← nl]
    exact h
  · refine ys_setD (t := Is K (["wide", "wide", "wide", "ring", "ring", "even", "wide", "short"] : List Str)) (YF.dat (yf_lst (yi_cons y_str (yi_cons y_str (yi_cons y_str (yi_cons y_str (yi_cons y_str (yi_cons y_str (yi_cons y_str (yi_cons y_str yi_nil)))))))) (by show 8 ≤ sizeLine; decide))) ?_
    refine ys_asgE (A := LaidP ns.length _) (us := fun x => [(5, Is K x.1), (6, Is K x.2)]) (y_call5 (x := wl) (y := ns) (z := (["wide", "wide", "wide", "ring", "ring", "even", "wide", "short"] : List Str)) (r := most) (q := (4 : Int)) (ya_cons (y_var rfl) (ya_cons (y_var rfl) (ya_cons (y_var rfl) (ya_cons (y_var rfl) (ya_cons y_int ya_nil))))) ⟨rfl, by omega, by omega, hn2, by simp, by decide, by decide⟩) (fun x => yg_pair yg_name yg_name) ?_
    rintro ⟨rs, cs⟩ ⟨rows, e, ro, l2, ln, _⟩
    have e : rs = rows.map dRow := e
    exact ys_ret (t := Ex K (RowsD m.toNat)) ((y_var rfl : Y _ _ _ _ (Is K rs)).ex ⟨rows, e, ro, l2, by rw [← nl]; exact ln⟩) hQ
end
end K29
set_option Elab.async false
set_option linter.all false
set_option maxRecDepth 100000
set_option maxHeartbeats 4000000
/-! The law's defs: the well. -/
namespace G
open PySem PySem.Spec PyProof.Rows L2 PySem.W
section
variable {K : PySem.W.Frag} {B : Bs} {g : Slots} {L : Ls} {te t1 t2 : TE} {D : Ends} {rest : TS} {p : Addr} {t : Lo}
/-- three whole numbers, the last at least 0 -/
def W3 (o : HO) : Prop := ∃ a b c : Int, o = .lst [.int a, .int b, .int c] ∧ 0 ≤ c
/-- a new list becomes a well: from here on it is the world -/
theorem ys_switch (hL : ∀ o H, t.p o H → W3 o) (hs : ∀ b, b ∈ B.W.M → b ∈ B.A) (k : ∀ H1, B.H0 p = none → p ∉ B.A → Le B.W.M B.H0 H1 → B.W.J H1 → YS ⟨Ww p, p :: B.A, H1, []⟩ g [] rest D) : YS B g [(p, t)] rest D := fun s H a => by
  obtain ⟨o, e1, e2⟩ := a.hd.lo (p, t) List.mem_cons_self
  obtain ⟨x, y, z, rfl, hz⟩ := hL o _ e2
  have n := a.hd.new (p, t) List.mem_cons_self
  refine k H n.1 n.2 a.hd.le a.hd.ok.j s H ⟨⟨⟨fun b hb => by rw [List.mem_singleton.mp hb]; exact List.mem_cons_self, ⟨x, y, z, e1, hz⟩, fun b hb => ?_⟩, Le.refl _ _, fun q hq => absurd hq List.not_mem_nil, List.nodup_nil, fun q hq => absurd hq List.not_mem_nil, fun q hq => absurd hq List.not_mem_nil⟩, a.sg⟩
  rcases List.mem_cons.mp hb with z | z
  · rw [z, e1]; exact fun q => by cases q
  · exact a.hd.ok.av b z
theorem w3_of {a b c : Int} (hc : 0 ≤ c) : ∀ o H, (LoL K [a, b, c]).p o H → W3 o := fun o H ⟨vs, e, r⟩ => ⟨a, b, c, by rw [e, ints_rp r]; rfl, hc⟩
/-- a def's promise that makes a well -/
def spW (ι : Type) (P : ι → Prop) (ss : ι → List Sl) : Sp := fun vs H Q E => ∃ (W : Wd) (A : List Addr) (i : ι), Ok W A H ∧ P i ∧ Paired (fun v (t : Sl) => t.p v (cut A H)) vs (ss i) ∧ ∀ p H', H p = none → Le W.M H H' → Ok (Ww p) (p :: A) H' → W.J H' → Q (.ref p) H'
end
end G
namespace K29
open PySem PySem.Spec PyProof.Rows L2 G PySem.W TL
section
variable {P : Program} {w : World} {K : PySem.W.Frag} {mg : Str → Option Value} {base : Heap} {x qual : Str} {params : Arguments} {body : List Stmt} {scope : Scope} {f : Addr} {fd : FuncData} {N ps : List Str} {k : Nat} {x' : Str}
theorem cal_mkW {ι : Type} {Pc : ι → Prop} {ss : ι → List Sl} (F : FunD K x qual params body scope [] [] f fd) (hm : mg x' = some (.ref f)) (S : FnScope N ps scope)
    (hb : ∀ (kV doc pm : Value) (an : Option Addr) (cdv ct : Value) (us : List Value), us.length = ps.length → bindArgs (PySem.W.fnOf x qual params body scope .none kV doc pm an cdv ct) ⟨us, []⟩ = pure (ps.zip us))
    (hn : ∀ i, (ss i).length = ps.length) (hN : Nat.ble ps.length N.length = true)
    (hbody : ∀ (cdv : Value) (A : Around) (outer : List Env) (s : Shared) (W : Wd) (A' : List Addr) (H : Hp) (i : ι) (Q : VK) (E : XK), Room k (A.deeper (envOfC qual scope s.heap.objs.size f cdv)) → Pc i → Ok W A' H → (∀ p H', H p = none → Le W.M H H' → Ok (Ww p) (p :: A') H' → W.J H' → Q (.ref p) H') →
      ∃ t, PSs (cxOf CX0 P w K mg base N qual scope f cdv A outer s H E).nox body t ∧ YS ⟨W, A', H, []⟩ (slots0 (ss i) N.length) [] t { nx := fun _ H' => Q .non H', rt := Q }) : Cal P w K mg base (k + 1) x' ps (spW ι Pc ss) := by
  refine ⟨f, fd, hm, F.kp, F.bindsN hb, F.ok S (fun vs H Q E h => ?_) fun cdv A outer s H vs Q E hr hsp => ?_⟩
  · obtain ⟨W, A', i, ok, hp, args, q⟩ := h
    rw [Paired.length args]
    exact hn i
  · obtain ⟨W, A', i, ok, hp, args, q⟩ := hsp
    obtain ⟨t, h1, h2⟩ := hbody cdv A outer s W A' H i Q E hr hp ok q
    exact ⟨t, h1.nox, h2 _ _ (at_start ok args (by rw [hn]; exact Nat.le_of_ble_eq_true hN))⟩
end
section
variable {P : Program} {w : World} {K : PySem.W.Frag} {mg : Str → Option Value} {base : Heap}
def NLwell : List Str := ["_law_script", "_law_k", "_law_cell", "_law_part", "_law_low", "_law_high", "_law_well_here", "_law_turn"]
theorem scLwell : FnScope NLwell ["_law_script", "_law_k"] (defScope s_Lwell) := ⟨rfl, rfl, rfl, by decide +kernel, rfl, by decide +kernel, by decide +kernel⟩
abbrev spLwell (K : PySem.W.Frag) : Sp := spW (List Int × Int) (fun i => i.1.length ≤ 63 ∧ 0 ≤ i.2 ∧ i.2 ≤ 3) (fun i => [Is K i.1, Is K i.2])
theorem ok_Lwell (M : Md K mg) (cLdraw : Cal P w K mg base 1 "_law_draw" ["_law_well_here", "_law_many"] (spdraw K)) : Cal P w K mg base 2 "_law_well" ["_law_script", "_law_k"] (spLwell K) := by
  obtain ⟨fd, F⟩ := M.d_Lwell
  refine cal_mkW F M.o_law_well scLwell (fun _ _ _ _ _ _ us hl => match us, hl with | [_, _], _ => rfl) (fun _ => rfl) rfl fun cdv A outer s W A' H i Q E hr1 hp ok hQ => ?_
  obtain ⟨xs, k⟩ := i
  obtain ⟨h1, h2, h3⟩ := hp
  have h1 : xs.length ≤ 63 := h1
  have h2 : 0 ≤ k := h2
  have h3 : k ≤ 3 := h3
  have hu := hr1.units
  have nd := scLwell.nd
  refine ⟨_,     (pss_cons (ps_set (i := 2) nd rfl (Or.inl rfl) (pe_ifExp (pt_cmpR op_lt (pv 1) (pe_callB (k_len K) (by rfl) M.mlen PySem.boot_len (pa_cons (pv 0) pa_nil)) (nomark _)) (pe_ix (k_ixL K) (pv 0) (pv 1) (fun _ _ => rfl)) (pe_op op_add (pe_op op_mul pe_int (pv 1)) pe_int)))
    (pss_cons (ps_if (pt_cmpR op_ge (pv 1) (pe_callB (k_len K) (by rfl) M.mlen PySem.boot_len (pa_cons (pv 0) pa_nil)) (nomark _))
      (pss_cons (ps_for PassesOwn.never rfl (k_list K (pe_slice (k_slL K) (pv 0) po_none (po_some pe_int))) (pg_name (i := 3) nd rfl (Or.inl rfl))
        (pss_cons (ps_set (i := 2) nd rfl (Or.inl rfl) (pe_op op_mod (pe_callTy call_int1 (by rfl) M.mint (by decide +kernel) (pa_cons (pe_op op_add (pe_op op_mul (pv 2) pe_int) (pv 3)) pa_nil)) pe_int))
        pss_nil))
      pss_nil)
      pss_nil)
    (pss_cons (ps_set (i := 4) nd rfl (Or.inl rfl) (pe_op op_mod (pe_callTy call_int1 (by rfl) M.mint (by decide +kernel) (pa_cons (pe_op op_pow (pe_op op_add (pe_op op_add (pe_op op_mod (pe_callTy call_int1 (by rfl) M.mint (by decide +kernel) (pa_cons (pv 2) pa_nil)) pe_int) (pe_op op_mul pe_int (pv 1))) pe_int) pe_int) pa_nil)) pe_int))
    (pss_cons (ps_set (i := 5) nd rfl (Or.inl rfl) (pe_op op_mod (pe_callTy call_int1 (by rfl) M.mint (by decide +kernel) (pa_cons (pe_op op_pow (pe_op op_add (pe_op op_add (pe_op op_mod (pe_callTy call_int1 (by rfl) M.mint (by decide +kernel) (pa_cons (pv 2) pa_nil)) pe_int) (pe_op op_mul pe_int (pv 1))) pe_int) pe_int) pa_nil)) pe_int))
    (pss_cons (ps_set (i := 6) nd rfl (Or.inl rfl) (pe_lst (pa_cons (pv 4) (pa_cons (pv 5) (pa_cons pe_int pa_nil)))))
    (pss_cons (ps_for PassesOwn.never rfl (pi_range1 (by rfl) M.mrange (pa_cons pe_int pa_nil)) (pg_name (i := 7) nd rfl (Or.inl rfl))
      (pss_cons (ps_expr (pe_cal cLdraw hr1 (by rfl) (pa_cons (pv 6) (pa_cons pe_int pa_nil))))
      pss_nil))
    (pss_cons (ps_asg (pe_ifExp (pt_cmpR op_ge (pe_callB call_abs (by rfl) M.mabs (by decide +kernel) (pa_cons (pv 2) pa_nil)) (pe_op op_pow pe_int pe_int) (nomark _)) (pe_callB call_abs (by rfl) M.mabs (by decide +kernel) (pa_cons (pv 2) pa_nil)) pe_int) (pg_sub (pv 6) pe_int set_list))
    (pss_cons (ps_ret (pv 6))
    pss_nil)))))))), ?_⟩
  dsimp only [cxOf, Cx.nox, Cx.wish]
  show YS ⟨W, A', H, []⟩ [some (Is K xs), some (Is K k), none, none, none, none, none, none] [] _ _
  have num : ∀ {B : Bs} {g : Slots} {L : Ls} (i : Int), YL B g L (tC (.int i)) (Ex K fun z : Int => z = i) := fun i => Y.loose (y_int.ex rfl)
  have cm : ∀ (c i j : Int), -(2 ^ 64) < c → c < 2 ^ 64 → i = c → CMul i j := fun c i j h1 h2 e => by subst e; exact .inl ⟨h1, h2⟩
  refine ys_setE (K := K) (A := fun _ : Int => True) (y_if (t := Ex K fun _ : Int => True) (c := decide (k < (xs.length : Int))) (yt_test (K := K) (Y.loose (y_opB (f := fun i j => decide (i < j)) (Y.loose (y_var rfl)) (Y.loose (y_lenL (Y.loose (y_var rfl))))))) (fun h => ?_) fun h => ?_) fun cell _ => ?_
  · have h := of_decide_eq_true h
    have hn : k.toNat < xs.length := by omega
    have e := atI_nat (xs := xs) (j := k.toNat) (List.getElem?_eq_getElem hn)
    rw [show ((k.toNat : Nat) : Int) = k by omega] at e
    exact (y_ixL (Y.q (y_var rfl)) (Y.loose (y_var rfl)) e).ex trivial
  · exact (y_opI (f := fun i j => i + j) (Y.loose (y_opC (f := fun i j => i * j) (Y.loose y_int) (Y.loose (y_var rfl)) (.inl ⟨by decide, by decide⟩))) (Y.loose y_int)).ex trivial
  refine ys_keyA (V := Int) (A := fun _ => True) (g' := fun v => [some (Is K xs), some (Is K k), some (Is K v), none, none, none, none, none]) (L' := []) ?_ fun key => ?_
  · rintro cell -
    have pw : ∀ (m a b : Int), 0 < m → m < 4294967296 → 0 ≤ a → a ≤ 100 → 0 ≤ b → b ≤ 100 → (cell % m + a * k + b).natAbs < 2 ^ 64 := fun m a b h0 h4 a0 a1 b0 b1 => by
      have m1 := Int.emod_nonneg cell (b := m) (by omega)
      have m2 := Int.emod_lt_of_pos cell h0
      have q0 : 0 ≤ a * k := Int.mul_nonneg a0 h2
      have q1 : a * k ≤ 100 * 3 := Int.mul_le_mul a1 h3 h2 (by decide)
      show _ < 18446744073709551616
      omega
    refine ys_setD (t := Is K ((cell % 2147483563 + 3 * k + 1) ^ (5 : Int).toNat % 2147483563)) (y_opC (f := fun i j => i % j) (Y.loose (y_intI (Y.loose (y_opC (f := fun i j => i ^ j.toNat) (Y.loose (y_opI (f := fun i j => i + j) (Y.loose (y_opI (f := fun i j => i + j) (Y.loose (y_opC (f := fun i j => i % j) (Y.loose (y_intI (Y.loose (y_var rfl)))) (Y.loose y_int) (by decide))) (Y.loose (y_opC (f := fun i j => i * j) (Y.loose y_int) (Y.loose (y_var rfl)) (.inl ⟨by decide, by decide⟩))))) (Y.loose y_int))) (Y.loose y_int) ⟨by decide, by decide, pw _ _ _ (by decide) (by decide) (by decide) (by decide) (by decide) (by decide)⟩)))) (Y.loose y_int) (by decide)) ?_
    generalize (cell % 2147483563 + 3 * k + 1) ^ (5 : Int).toNat % 2147483563 = low
    refine ys_setD (t := Is K ((cell % 2147483399 + 7 * k + 2) ^ (5 : Int).toNat % 2147483399)) (y_opC (f := fun i j => i % j) (Y.loose (y_intI (Y.loose (y_opC (f := fun i j => i ^ j.toNat) (Y.loose (y_opI (f := fun i j => i + j) (Y.loose (y_opI (f := fun i j => i + j) (Y.loose (y_opC (f := fun i j => i % j) (Y.loose (y_intI (Y.loose (y_var rfl)))) (Y.loose y_int) (by decide))) (Y.loose (y_opC (f := fun i j => i * j) (Y.loose y_int) (Y.loose (y_var rfl)) (.inl ⟨by decide, by decide⟩))))) (Y.loose y_int))) (Y.loose y_int) ⟨by decide, by decide, pw _ _ _ (by decide) (by decide) (by decide) (by decide) (by decide) (by decide)⟩)))) (Y.loose y_int) (by decide)) ?_
    generalize (cell % 2147483399 + 7 * k + 2) ^ (5 : Int).toNat % 2147483399 = high
    refine ys_set (O := oNew K (· = [low, high, 0])) (YF.o (yf_lst (yi_cons (y_var rfl) (yi_cons (y_var rfl) (yi_cons y_int yi_nil))) (by show 3 ≤ sizeLine; decide))) ?_
    rintro _ _ ⟨p, _, rfl, rfl, rfl⟩
    refine ys_switch (w3_of (Int.le_refl 0)) ok.sub fun H1 hp0 hpA le1 j1 => ?_
    have hq : Rt ⟨Ww p, p :: A', H1, []⟩ (Vl (.ref p)) Q := fun v H2 le2 ok2 pv => by
      have pv : v = .ref p := pv
      subst pv
      have pn : ∀ b o, H b = some o → b ≠ p := fun b o hb z => by
        have hp0 : H p = none := hp0
        rw [z, hp0] at hb; cases hb
      have le1 : Le W.M H H1 := le1
      refine hQ p H2 hp0 (fun b o hb h => ?_) ok2 (W.jd (fun b hb => ?_) j1)
      · exact le2 b o (fun z => pn b o h (List.mem_singleton.mp z)) (le1 b o hb h)
      · cases e : H1 b with
        | none => exact absurd e (W.jm j1 b hb)
        | some o => exact le2 b o (fun z => hpA (by rw [← List.mem_singleton.mp z]; exact ok.sub b hb)) e
    refine ys_forB K (ι := Unit) (xs := rngI 0 (3 : Int).toNat) (us := fun _ x => [(7, Is K x)]) (fun _ _ => True) (fun _ => [some (Is K xs), some (Is K k), some (Is K cell), none, some (Is K low), some (Is K high), some (Vl (.ref p)), none]) (fun _ => []) ?_ ?_ ?_ ?_ ?_
    · exact yi_range1 (yal_cons (Y.loose y_int) yal_nil) (by decide) (by decide)
    · exact ⟨(), trivial, Wk1.refl _, List.Sublist.refl _⟩
    · exact fun X d x _ => yg_name
    · rintro X j - x hx -
      refine ys_expr (y_draw (m := 2) rfl (ya_cons (y_var rfl) (ya_cons y_int ya_nil)) (by decide) (by decide)) ?_
      exact ys_next fun s H a => ⟨(), trivial, a.weak (.keep (.keep (.keep (.keep (.keep (.keep (.keep (.drop .nil))))))))⟩
    · rintro - -
      refine ys_wset (j := 2) (A := fun z => 0 ≤ z) rfl rfl rfl (y_ifP (t := Ex K fun z : Int => 0 ≤ z) (C := fun _ => True) ((yt_test (K := K) (Y.loose (y_opB (f := fun i j => decide (j ≤ i)) (Y.loose (y_abs (Y.loose (y_var rfl)))) (Y.loose (y_opC (f := fun i j => i ^ j.toNat) (Y.loose y_int) (Y.loose y_int) ⟨by decide, by decide, by decide⟩))))).imp fun _ _ => trivial) (fun _ => (y_abs (Y.loose (y_var rfl))).ex ?_) fun _ => y_int.ex (Int.le_refl 0)) (fun z hz _ => hz) ?_
      · show (0 : Int) ≤ if cell < 0 then -cell else cell
        split <;> omega
      exact ys_ret (y_var rfl) hq
  · refine ys_if (c := decide ((xs.length : Int) ≤ k)) (yt_test (K := K) (Y.loose (y_opB (f := fun i j => decide (j ≤ i)) (Y.loose (y_var rfl)) (Y.loose (y_lenL (Y.loose (y_var rfl))))))) (fun h => ?_) fun h => ys_then (key cell trivial)
    refine ys_forB K (ι := Int) (xs := cutL xs none (some 3)) (us := fun _ x => [(3, Is K x)]) (fun _ _ => True) (fun v => [some (Is K xs), some (Is K k), some (Is K v), none, none, none, none, none]) (fun _ => []) ?_ ?_ ?_ ?_ ?_
    · exact yi_list (YF.dat (yf_slL (Y.q (y_var rfl)) yo_no (yo_some (K := K) (Y.loose y_int))))
    · exact ⟨cell, trivial, Wk1.refl _, List.Sublist.refl _⟩
    · exact fun X d x _ => yg_name
    · rintro X j v x hx -
      refine ys_setE (K := K) (A := fun _ : Int => True) ((y_opC (f := fun i j => i % j) (Y.loose (y_intI (Y.loose (y_opI (f := fun i j => i + j) (Y.loose (y_opC (f := fun i j => i * j) (Y.loose (y_var rfl)) (Y.loose y_int) (.inr ⟨by decide, by decide⟩))) (Y.loose (y_var rfl)))))) (Y.loose y_int) (by decide)).ex trivial) fun v' _ => ?_
      exact ys_next fun s H a => ⟨v', trivial, a.weak (.keep (.keep (.keep (.drop (.keep (.keep (.keep (.keep .nil))))))))⟩
    · rintro v -
      exact ys_then (key v trivial)
end
end K29
set_option Elab.async false
set_option linter.all false
set_option maxRecDepth 100000
set_option maxHeartbeats 4000000
/-! The law's defs: whether two results are the same. -/
namespace K29
open PySem PySem.Spec PyProof.Rows L2 G PySem.W TL
section
variable {P : Program} {w : World} {K : PySem.W.Frag} {mg : Str → Option Value} {base : Heap}
def NLsame : List Str := ["_law_gave", "_law_due_here", "_law_left", "_law_right"]
theorem scLsame : FnScope NLsame ["_law_gave", "_law_due_here"] (defScope s_Lsame) := ⟨rfl, rfl, rfl, by decide +kernel, rfl, by decide +kernel, by decide +kernel⟩
/-- two texts -/
abbrev spLsame0 (K : PySem.W.Frag) : Sp := sp2 (fun _ (x y : Str) => x = y) (fun x : Str => Is K x) (fun x : Str => Is K x) fun _ _ => Is K true
theorem ok_Lsame0 (M : Md K mg) : Cal P w K mg base 1 "_law_same" ["_law_gave", "_law_due_here"] (spLsame0 K) := by
  obtain ⟨fd, F⟩ := M.d_Lsame
  refine cal_mk F M.o_law_same scLsame (fun _ _ _ _ _ _ us hl => match us, hl with | [_, _], _ => rfl) (fun _ => rfl) rfl fun cdv A outer s W A' H i Q E hr0 hp ok hQ => ?_
  obtain ⟨x, y⟩ := i
  have hp : x = y := hp
  subst hp
  have hu := hr0.units
  have nd := scLsame.nd
  refine ⟨_, (pss_cons (ps_if (pt_val (pe_callB (k_isi K) (by rfl) M.misinstance (by decide +kernel) (pa_cons (pv 1) (pa_cons (pe_bltn (v := .ty "tuple") (by rfl) M.mtuple (by decide +kernel) rfl) pa_nil))))
      (pss_cons ps_never (pss_cons ps_never pss_nil))
      pss_nil)
    (pss_cons (ps_if (pt_cmpR op_isN (pv 1) pe_non (nomark _))
      (pss_cons (ps_ret (pe_cmpR op_isN (pv 0) pe_non (nomark _)))
      pss_nil)
      pss_nil)
    (pss_cons (ps_if (pt_val (pe_callB (k_isi K) (by rfl) M.misinstance (by decide +kernel) (pa_cons (pv 1) (pa_cons (pe_bltn (v := .ty "bool") (by rfl) M.mbool (by decide +kernel) rfl) pa_nil))))
      (pss_cons ps_never pss_nil)
      pss_nil)
    (pss_cons (ps_if (pt_val (pe_callB (k_isi K) (by rfl) M.misinstance (by decide +kernel) (pa_cons (pv 1) (pa_cons (pe_bltn (v := .ty "int") (by rfl) M.mint (by decide +kernel) rfl) pa_nil))))
      (pss_cons (ps_ret (pe_and (pe_callB (k_isi K) (by rfl) M.misinstance (by decide +kernel) (pa_cons (pv 0) (pa_cons (pe_bltn (v := .ty "int") (by rfl) M.mint (by decide +kernel) rfl) pa_nil))) (pe_and (pe_not (pe_callB (k_isi K) (by rfl) M.misinstance (by decide +kernel) (pa_cons (pv 0) (pa_cons (pe_bltn (v := .ty "bool") (by rfl) M.mbool (by decide +kernel) rfl) pa_nil)))) (pe_one (pe_cmpR (k_eq K Int hu) (pv 0) (pv 1) (nomark _))))))
      pss_nil)
      pss_nil)
    (pss_cons (ps_ret (pe_and (pe_callB (k_isi K) (by rfl) M.misinstance (by decide +kernel) (pa_cons (pv 0) (pa_cons (pe_bltn (v := .ty "str") (by rfl) M.mstr (by decide +kernel) rfl) pa_nil))) (pe_one (pe_cmpR (k_eq K Str hu) (pv 0) (pv 1) (nomark _)))))
    pss_nil))))), ?_⟩
  dsimp only [cxOf, Cx.nox, Cx.wish]
  show YS ⟨W, A', H, []⟩ [some (Is K x), some (Is K x), none, none] [] _ _
  refine ys_if (c := false) (yt_val (K := K) (Y.loose (y_isi (Y.loose (y_var rfl)) ty_str (.ty _) rfl))) (fun h => by cases h) fun _ => ys_then ?_
  refine ys_if (c := false) (yt_test (K := K) (Y.loose (y_isN (Y.loose (y_var rfl)) fun v H h => by rw [str_rp h]; rfl))) (fun h => by cases h) fun _ => ys_then ?_
  refine ys_if (c := false) (yt_val (K := K) (Y.loose (y_isi (Y.loose (y_var rfl)) ty_str (.ty _) rfl))) (fun h => by cases h) fun _ => ys_then ?_
  refine ys_if (c := false) (yt_val (K := K) (Y.loose (y_isi (Y.loose (y_var rfl)) ty_str (.ty _) rfl))) (fun h => by cases h) fun _ => ys_then ?_
  refine ys_ret (t := Is K true) (Y.to (a := true && decide (x = x)) ?_ (by rw [decide_eq_true rfl]; rfl)) hQ
  exact y_andV (y_isi (Y.loose (y_var rfl)) ty_str (.ty _) rfl) fun _ => y_eqT (Y.loose (y_var rfl)) (Y.loose (y_var rfl))
/-- an answer: None, a number, or a text in a tuple -/
inductive Ans where
  | oi (o : Option Int)
  | tx (x : Str)
def AnS (K : PySem.W.Frag) : Ans → Sl
  | .oi o => OI K o
  | .tx x => Is K (Tup.mk [x])
abbrev spLsame (K : PySem.W.Frag) : Sp := sp2 (fun _ (x y : Ans) => x = y) (fun x : Ans => AnS K x) (fun x : Ans => AnS K x) fun _ _ => Is K true
theorem ok_Lsame (M : Md K mg) (c0 : Cal P w K mg base 1 "_law_same" ["_law_gave", "_law_due_here"] (spLsame0 K)) : Cal P w K mg base 2 "_law_same" ["_law_gave", "_law_due_here"] (spLsame K) := by
  obtain ⟨fd, F⟩ := M.d_Lsame
  refine cal_mk F M.o_law_same scLsame (fun _ _ _ _ _ _ us hl => match us, hl with | [_, _], _ => rfl) (fun _ => rfl) rfl fun cdv A outer s W A' H i Q E hr1 hp ok hQ => ?_
  obtain ⟨x, y⟩ := i
  have hp : x = y := hp
  subst hp
  have hu := hr1.units
  have nd := scLsame.nd
  cases x with
  | oi o =>
    cases o with
    | none =>
      refine ⟨_, (pss_cons (ps_if (pt_val (pe_callB (k_isi K) (by rfl) M.misinstance (by decide +kernel) (pa_cons (pv 1) (pa_cons (pe_bltn (v := .ty "tuple") (by rfl) M.mtuple (by decide +kernel) rfl) pa_nil))))
      (pss_cons ps_never (pss_cons ps_never pss_nil))
      pss_nil)
    (pss_cons (ps_if (pt_cmpR op_isN (pv 1) pe_non (nomark _))
      (pss_cons (ps_ret (pe_cmpR op_isN (pv 0) pe_non (nomark _)))
      pss_nil)
      pss_nil)
    (pss_cons (ps_if (pt_val (pe_callB (k_isi K) (by rfl) M.misinstance (by decide +kernel) (pa_cons (pv 1) (pa_cons (pe_bltn (v := .ty "bool") (by rfl) M.mbool (by decide +kernel) rfl) pa_nil))))
      (pss_cons ps_never pss_nil)
      pss_nil)
    (pss_cons (ps_if (pt_val (pe_callB (k_isi K) (by rfl) M.misinstance (by decide +kernel) (pa_cons (pv 1) (pa_cons (pe_bltn (v := .ty "int") (by rfl) M.mint (by decide +kernel) rfl) pa_nil))))
      (pss_cons (ps_ret (pe_and (pe_callB (k_isi K) (by rfl) M.misinstance (by decide +kernel) (pa_cons (pv 0) (pa_cons (pe_bltn (v := .ty "int") (by rfl) M.mint (by decide +kernel) rfl) pa_nil))) (pe_and (pe_not (pe_callB (k_isi K) (by rfl) M.misinstance (by decide +kernel) (pa_cons (pv 0) (pa_cons (pe_bltn (v := .ty "bool") (by rfl) M.mbool (by decide +kernel) rfl) pa_nil)))) (pe_one (pe_cmpR (k_eq K Int hu) (pv 0) (pv 1) (nomark _))))))
      pss_nil)
      pss_nil)
    (pss_cons (ps_ret (pe_and (pe_callB (k_isi K) (by rfl) M.misinstance (by decide +kernel) (pa_cons (pv 0) (pa_cons (pe_bltn (v := .ty "str") (by rfl) M.mstr (by decide +kernel) rfl) pa_nil))) (pe_one (pe_cmpR (k_eq K Str hu) (pv 0) (pv 1) (nomark _)))))
    pss_nil))))), ?_⟩
      dsimp only [cxOf, Cx.nox, Cx.wish]
      show YS ⟨W, A', H, []⟩ [some (Vl .non), some (Vl .non), none, none] [] _ _
      refine ys_if (c := false) (yt_val (K := K) (Y.loose (y_isi (Y.loose (y_var rfl)) ty_non (.ty _) rfl))) (fun h => by cases h) fun _ => ys_then ?_
      refine ys_if (c := true) (yt_test (K := K) (Y.loose (y_isN (Y.loose (y_var rfl)) fun v H h => non_vl h))) (fun _ => ?_) (fun h => by cases h)
      exact ys_ret (t := Is K true) (y_isN (Y.loose (y_var rfl)) fun v H h => non_vl h) hQ
    | some n =>
      refine ⟨_, (pss_cons (ps_if (pt_val (pe_callB (k_isi K) (by rfl) M.misinstance (by decide +kernel) (pa_cons (pv 1) (pa_cons (pe_bltn (v := .ty "tuple") (by rfl) M.mtuple (by decide +kernel) rfl) pa_nil))))
      (pss_cons ps_never (pss_cons ps_never pss_nil))
      pss_nil)
    (pss_cons (ps_if (pt_cmpR op_isN (pv 1) pe_non (nomark _))
      (pss_cons (ps_ret (pe_cmpR op_isN (pv 0) pe_non (nomark _)))
      pss_nil)
      pss_nil)
    (pss_cons (ps_if (pt_val (pe_callB (k_isi K) (by rfl) M.misinstance (by decide +kernel) (pa_cons (pv 1) (pa_cons (pe_bltn (v := .ty "bool") (by rfl) M.mbool (by decide +kernel) rfl) pa_nil))))
      (pss_cons ps_never pss_nil)
      pss_nil)
    (pss_cons (ps_if (pt_val (pe_callB (k_isi K) (by rfl) M.misinstance (by decide +kernel) (pa_cons (pv 1) (pa_cons (pe_bltn (v := .ty "int") (by rfl) M.mint (by decide +kernel) rfl) pa_nil))))
      (pss_cons (ps_ret (pe_and (pe_callB (k_isi K) (by rfl) M.misinstance (by decide +kernel) (pa_cons (pv 0) (pa_cons (pe_bltn (v := .ty "int") (by rfl) M.mint (by decide +kernel) rfl) pa_nil))) (pe_and (pe_not (pe_callB (k_isi K) (by rfl) M.misinstance (by decide +kernel) (pa_cons (pv 0) (pa_cons (pe_bltn (v := .ty "bool") (by rfl) M.mbool (by decide +kernel) rfl) pa_nil)))) (pe_one (pe_cmpR (k_eq K Int hu) (pv 0) (pv 1) (nomark _))))))
      pss_nil)
      pss_nil)
    (pss_cons (ps_ret (pe_and (pe_callB (k_isi K) (by rfl) M.misinstance (by decide +kernel) (pa_cons (pv 0) (pa_cons (pe_bltn (v := .ty "str") (by rfl) M.mstr (by decide +kernel) rfl) pa_nil))) (pe_one (pe_cmpR (k_eq K Str hu) (pv 0) (pv 1) (nomark _)))))
    pss_nil))))), ?_⟩
      dsimp only [cxOf, Cx.nox, Cx.wish]
      show YS ⟨W, A', H, []⟩ [some (Is K n), some (Is K n), none, none] [] _ _
      refine ys_if (c := false) (yt_val (K := K) (Y.loose (y_isi (Y.loose (y_var rfl)) ty_int (.ty _) rfl))) (fun h => by cases h) fun _ => ys_then ?_
      refine ys_if (c := false) (yt_test (K := K) (Y.loose (y_isN (Y.loose (y_var rfl)) fun v H h => non_int h))) (fun h => by cases h) fun _ => ys_then ?_
      refine ys_if (c := false) (yt_val (K := K) (Y.loose (y_isi (Y.loose (y_var rfl)) ty_int (.ty _) rfl))) (fun h => by cases h) fun _ => ys_then ?_
      refine ys_if (c := true) (yt_val (K := K) (Y.loose (y_isi (Y.loose (y_var rfl)) ty_int (.ty _) rfl))) (fun _ => ?_) (fun h => by cases h)
      refine ys_ret (t := Is K true) (Y.to (a := true && (!false && decide (n = n))) ?_ (by rw [decide_eq_true rfl]; rfl)) hQ
      exact y_andV (y_isi (Y.loose (y_var rfl)) ty_int (.ty _) rfl) fun _ => y_andV (y_notV (y_isi (Y.loose (y_var rfl)) ty_int (.ty _) rfl)) fun _ => y_eqT (Y.loose (y_var rfl)) (Y.loose (y_var rfl))
  | tx x =>
    refine ⟨_, (pss_cons (ps_if (pt_val (pe_callB (k_isi K) (by rfl) M.misinstance (by decide +kernel) (pa_cons (pv 1) (pa_cons (pe_bltn (v := .ty "tuple") (by rfl) M.mtuple (by decide +kernel) rfl) pa_nil))))
      (pss_cons (ps_if (PW.pt (pw_or (pt_not (pt_val (pe_callB (k_isi K) (by rfl) M.misinstance (by decide +kernel) (pa_cons (pv 0) (pa_cons (pe_bltn (v := .ty "tuple") (by rfl) M.mtuple (by decide +kernel) rfl) pa_nil))))) (pw_or1 (pt_cmpR (k_ne K Int hu) (pe_callB (k_len K) (by rfl) M.mlen PySem.boot_len (pa_cons (pv 0) pa_nil)) (pe_callB (k_len K) (by rfl) M.mlen PySem.boot_len (pa_cons (pv 1) pa_nil)) (nomark _)))))
        (pss_cons ps_never pss_nil)
        pss_nil)
      (pss_cons (ps_ret (pe_callB (k_all K) (by rfl) M.mall (by decide +kernel) (pa_cons (pe_lc rfl nd (k_zip K true true (by rfl) M.mzip (pa_cons (pv 0) (pa_cons (pv 1) pa_nil))) (blkOk_by (N := NLsame) (sc := defScope s_Lsame) (own := [("_law_left", 2), ("_law_right", 3)]) (by decide +kernel)) (fun _ _ _ _ _ => (k_pg K (n := 2) (pgs_cons (pg_name (i := 2) nd rfl (Or.inl rfl)) (pgs_cons (pg_name (i := 3) nd rfl (Or.inl rfl)) pgs_nil)))) (fun _ _ _ _ _ => pts_nil) (fun _ _ _ _ _ => (pe_cal c0 hr1 (by rfl) (pa_cons (pv 2) (pa_cons (pv 3) pa_nil))))) pa_nil)))
      pss_nil))
      pss_nil)
    (pss_cons (ps_if (pt_cmpR op_isN (pv 1) pe_non (nomark _))
      (pss_cons (ps_ret (pe_cmpR op_isN (pv 0) pe_non (nomark _)))
      pss_nil)
      pss_nil)
    (pss_cons (ps_if (pt_val (pe_callB (k_isi K) (by rfl) M.misinstance (by decide +kernel) (pa_cons (pv 1) (pa_cons (pe_bltn (v := .ty "bool") (by rfl) M.mbool (by decide +kernel) rfl) pa_nil))))
      (pss_cons ps_never pss_nil)
      pss_nil)
    (pss_cons (ps_if (pt_val (pe_callB (k_isi K) (by rfl) M.misinstance (by decide +kernel) (pa_cons (pv 1) (pa_cons (pe_bltn (v := .ty "int") (by rfl) M.mint (by decide +kernel) rfl) pa_nil))))
      (pss_cons (ps_ret (pe_and (pe_callB (k_isi K) (by rfl) M.misinstance (by decide +kernel) (pa_cons (pv 0) (pa_cons (pe_bltn (v := .ty "int") (by rfl) M.mint (by decide +kernel) rfl) pa_nil))) (pe_and (pe_not (pe_callB (k_isi K) (by rfl) M.misinstance (by decide +kernel) (pa_cons (pv 0) (pa_cons (pe_bltn (v := .ty "bool") (by rfl) M.mbool (by decide +kernel) rfl) pa_nil)))) (pe_one (pe_cmpR (k_eq K Int hu) (pv 0) (pv 1) (nomark _))))))
      pss_nil)
      pss_nil)
    (pss_cons (ps_ret (pe_and (pe_callB (k_isi K) (by rfl) M.misinstance (by decide +kernel) (pa_cons (pv 0) (pa_cons (pe_bltn (v := .ty "str") (by rfl) M.mstr (by decide +kernel) rfl) pa_nil))) (pe_one (pe_cmpR (k_eq K Str hu) (pv 0) (pv 1) (nomark _)))))
    pss_nil))))), ?_⟩
    dsimp only [cxOf, Cx.nox, Cx.wish]
    show YS ⟨W, A', H, []⟩ [some (Is K (Tup.mk [x])), some (Is K (Tup.mk [x])), none, none] [] _ _
    refine ys_if (c := true) (yt_val (K := K) (Y.loose (y_isi (Y.loose (y_var rfl)) ty_tup (.ty _) rfl))) (fun _ => ?_) (fun h => by cases h)
    refine ys_if (c := !true || decide (([x].length : Int) ≠ ([x].length : Int))) (yt_or (yt_not (yt_val (K := K) (Y.loose (y_isi (Y.loose (y_var rfl)) ty_tup (.ty _) rfl)))) fun _ => yt_test (K := K) (Y.loose (y_neT (Y.loose (y_lenU (Y.loose (y_var rfl)))) (Y.loose (y_lenU (Y.loose (y_var rfl))))))) (fun h => by simp at h) fun _ => ys_then ?_
    refine ys_ret (t := Is K true) (Y.to (y_all (Y.loose (YF.dat (yf_lc1 (vs := [2, 3]) (xs := [x].zip [x]) (us := fun y => [(2, Is K y.1), (3, Is K y.2)]) (f := fun _ => true) (yi_zip (b1 := true) (b2 := true) (ya_cons (y_var rfl) (ya_cons (y_var rfl) ya_nil))).loose (by show 1 ≤ sizeLine; decide) (fun D y _ => yg_pair yg_name yg_name) (fun y _ i hi => by simpa using hi) (fun D y hy => ?_))))) rfl) hQ
    have e : y = (x, x) := List.mem_singleton.mp hy
    subst e
    exact y_call2 (x := x) (y := x) (ya_cons (y_var rfl) (ya_cons (y_var rfl) ya_nil)) rfl
end
end K29
set_option Elab.async false
set_option linter.all false
set_option maxRecDepth 100000
set_option maxHeartbeats 4000000
/-! A lambda handed to a def: all but the one table stays. -/
namespace G
open PySem PySem.Spec PyProof.Rows L2 LamX
/-- all but the object at P stays -/
def Ext1 (P : Addr) (H H' : Hp) : Prop := ∀ (b : Addr) (o : HO), b ≠ P → H b = some o → H' b = some o
/-- the table at P has grown by code objects that are new -/
def Grown (P : Addr) (q : Str) (H H1 : Hp) : Prop := ∃ ps ps1 : Array Value, H P = some (.tbl ps) ∧ H1 P = some (.tbl ps1) ∧ TriplesOk ps1.toList ∧
  ∀ (pos : Pos) (cv : Value), codeAmong pos ps1.toList = some cv → codeAmong pos ps.toList = some cv ∨ ∃ cc, cv = .ref cc ∧ H cc = none ∧ H1 cc = some (CodeO cc q)
section
variable {X : Cx} {pins : List (Addr × Obj)} {σ : L2.St} {H : Hp} {s : Shared}
/-- what is told of a lambda that was just made: f, its code object, the heaps -/
structure Made (X : Cx) (pins : List (Addr × Obj)) (σ : L2.St) (P : Addr) (q : Str) (ag : Arguments) (bd : Expr) (sc : Scope) (H : Hp) (f cc : Addr) (pm tv : Value) (H1 : Hp) (s1 : Shared) : Prop where
  inv : Inv X pins σ H1 s1
  ext : Ext1 P H H1
  tab : Grown P q H H1
  here : s1.heap.get? f = some (PySem.W.kla_obj "<lambda>" q ag bd sc (cloFrom X.env.cells sc.names []) pm cc tv)
  new : H1 f = none
  nofr : f ∉ frs X.stack
  code : H1 cc = some (CodeO cc q)
theorem made_lam {P c : Addr} {ag : Arguments} {bd : Expr} {sc : Scope} {lp : Pos} {E Q : Value → Shared → Prop} (I : Inv X pins σ H s) (B : TabB X.base X.mg c P) (hc : X.env.code = .ref c) (T : TabS H P (X.env.qual ++ "<lambda>"))
    (nodef : defaultsOf ag X.env = ([], [])) (caps : ∀ y ∈ sc.names, y.2 = .free → ∃ a, X.env.cells.lookup y.1 = some a)
    (k : ∀ f cc pm tv H1 s1, Made X pins σ P (X.env.qual ++ "<lambda>") ag bd sc H f cc pm tv H1 s1 → Q (.ref f) s1) : wpAny (model X.prog X.w) X.A (eval (.Lambda ag bd sc lp) X.env) Q E s := by
  obtain ⟨ps, tP, trip, each⟩ := T
  apply PySem.W.kla_eval nodef
  have there := I.hok P _ tP
  have free_at : ∀ {n : Nat}, s.heap.objs.size ≤ n → n ∉ frs X.stack := fun {n} le hm =>
    (List.mem_cons.mp (I.stkSub n hm)).elim (fun e => absurd I.lt (by rw [← e]; exact Nat.not_lt.mpr le)) fun m => I.nofs le m
  cases found : codeAmong lp ps.toList with
  | some cv =>
    obtain ⟨cc, rfl, isC⟩ := each lp cv found
    apply PySem.W.kla_makeFunctionHit (mg := X.mg) (P := P) (c := c) (ps := ps) (closure_ok caps) I.ok.glob (I.mod.glob.keeps I.bk) hc (B.code.keeps I.bk) there trip found (B.bm.keeps I.bk)
    intro tv h' tk keep le
    exact k h'.objs.size cc _ tv H _ ⟨I.kept fun b o e => Heap.get?_push_of_some _ (keep b o e), fun _ _ _ e => e, ⟨ps, ps, tP, tP, trip, fun _ _ e => .inl e⟩, Heap.get?_push_size _ rfl, I.hok.fresh le, free_at le, isC⟩
  | none =>
    apply PySem.W.kla_makeFunction (mg := X.mg) (P := P) (c := c) (ps := ps) (closure_ok caps) I.ok.glob (I.mod.glob.keeps I.bk) hc (B.code.keeps I.bk) there trip found B.gP (B.bm.keeps I.bk)
    rintro cc tv h' tk but le lt ⟨c2, ob, vs, t, e2, oc, od, ov⟩ tb
    cases e2
    have none_cc : H cc = none := I.hok.fresh le
    have big : s.heap.objs.size ≤ h'.objs.size := by omega
    have P_cc : P ≠ cc := ne_of_none tP none_cc
    have J := inv_table (q := X.env.qual ++ "<lambda>") (t' := tk) (more := #[rawInt lp.line, rawInt lp.col, .ref cc]) (h' := h'.push (PySem.W.kla_obj "<lambda>" (X.env.qual ++ "<lambda>") ag bd sc (cloFrom X.env.cells sc.names []) ((X.mg "__name__").getD .none) cc tv)) I tP
      (fun b o nb e => Heap.get?_push_of_some _ (but b o nb e)) (Heap.get?_push_of_some _ tb) le ⟨ob, vs, t, Heap.get?_push_of_some _ oc, od, ov⟩
    have ext : Ext1 P H (upd (upd H P (.tbl (ps ++ #[rawInt lp.line, rawInt lp.col, .ref cc]))) cc (CodeO cc (X.env.qual ++ "<lambda>"))) := fun b o nb e => by
      rw [upd_ne (ne_of_none e none_cc), upd_ne nb, e]
    have tl : (ps ++ #[rawInt lp.line, rawInt lp.col, .ref cc]).toList = ps.toList ++ [rawInt lp.line, rawInt lp.col, .ref cc] := Array.toList_append
    refine k h'.objs.size cc _ tv _ _ ⟨J, ext, ⟨ps, _, tP, by rw [upd_ne P_cc, upd_same], by rw [tl]; exact PySem.TriplesOk_snoc _ _ _ _ trip, fun pos cv among => ?_⟩, Heap.get?_push_size _ rfl, ?_, free_at big, upd_same⟩
    · rw [tl] at among
      exact (among_app _ trip among).imp id fun e => ⟨cc, e, none_cc, upd_same⟩
    · rw [upd_ne (Nat.ne_of_gt lt), upd_ne (Nat.ne_of_gt (Nat.lt_of_lt_of_le (Heap.lt_size there) big))]
      exact I.hok.fresh big
end
def tLamP (P : Addr) (q : Str) (TT : (XK → Hp → VK → Prop) → Hp → VK → Prop) (t : XK → TE) : TE := fun σ H Q => TabS H P q ∧ ∀ H1, Ext1 P H H1 → Grown P q H H1 → TT (fun E H' Q' => t E σ H' Q') H1 Q
/-- x(lambda: body) -/
theorem pe_lamP {X : Cx} {TT : (XK → Hp → VK → Prop) → Hp → VK → Prop} {x a : Str} {g c P : Addr} {k : Nat} {pg : Arguments} {bg : List Stmt} {sg : Scope} {dV kV doc pm cdv ct oc : Value} {an od : Option Addr} {osl : Array (Option Value)} {Ng : List Str}
    {ag : Arguments} {bd : Expr} {sc : Scope} {t : XK → TE} {p lp pos : Pos} (gl : Gl X x) (gm : X.mg x = some (.ref g)) (gk : PySem.W.keepIn X.K (.ref g) = true)
    (gf : X.K.lookup g = some ⟨oc, od, .func (PySem.W.fnOf x x pg bg sg dV kV doc pm an cdv ct), osl⟩) (gc : PySem.W.codeIn X.K cdv x = true) (gb : L2.Binds X.K (PySem.W.fnOf x x pg bg sg dV kV doc pm an cdv ct) [a] []) (gs : FnScope Ng [a] sg) (g0 : Ng[0]? = some a) (gv : Vis sg a)
    (gives : GivesTo X Ng x sg g cdv bg a (X.env.qual ++ "<lambda>") TT) (B : TabB X.base X.mg c P) (hc : X.env.code = .ref c) (room : Room (k + 2) X.A) (L : LamS X.env.scope sc) (nodef : defaultsOf ag X.env = ([], []))
    (nobind : ∀ (q : Str) (cl : List (Str × Addr)) (pm cv ctv : Value), bindArgs (PySem.W.kla_fn "<lambda>" q ag bd sc cl pm cv ctv) ⟨[], []⟩ = pure [])
    (body : ∀ (A : Around) (outer : List Env) (s : Shared) (H : Hp) (E : XK) (f cc : Addr), Room k (A.deeper (lamEnv X sc s.heap.objs.size f cc)) → PE (lamCx X A outer s H E sc f cc) bd (t E))
    (ndb : (x == ("__debug__" : Str)) = false := by decide) (nd1 : (a == ("__debug__" : Str)) = false := by decide) (nd2 : (a == ("__classdict__" : Str)) = false := by decide) :
    PE X (.Call (.Name x p) [.Lambda ag bd sc lp] [] pos) (tLamP P (X.env.qual ++ "<lambda>") TT t) := ⟨fun pins s σ H Q I h => by
  apply wpAny_Call_Name_kw
  apply ld_glob I gl gm _ ndb
  apply PySem.W.callWith_K (h₀ := X.base) I.ok.mod.kin gk _ rfl rfl
  show wpAny _ _ (spliced ((false, eval (.Lambda ag bd sc lp) X.env) :: backTo pos (starEach [] X.env))) _ _ s
  refine Calls.spliced_cons (made_lam I B hc h.1 nodef (L.has I.ok) fun f cc pm' tv H1 s1 m => ?_)
  refine Calls.spliced_nil ⟨m.inv.kIn, ?_⟩
  have rc : codeAny (model X.prog X.w) X.A (.call (.ref g) ⟨[.ref f], []⟩) (CR C8.CX0 X.stack X.prog X.w H1 s1 Q C8.E0) s1 :=
    run_ofS (ps := [a]) (us := [.ref f]) (vs := [.ref f]) gf gc gs room m.inv.env0 (gb s1 [.ref f] m.inv.kIn rfl) (.cons rfl .nil) rfl fun room1 => by
      obtain ⟨t1, w1, w2⟩ := gives f cc s1 H1 Q (fun E H' Q' => t E σ H' Q') (fun W pn xe E p1 p2 tk hW => pe_act (i := 0) m.inv L m.here m.new m.nofr (nobind _ _ _ _ _) tk hW room1 (fun A outer s H r2 => body A outer s H E f cc r2) g0 gv nd1 nd2) m.code (h.2 H1 m.ext m.tab)
      exact ⟨t1, w1.nox, w2⟩
  refine wpAny_call (codeAny_mono rc fun r s2 hq => ?_)
  match r, hq with
  | .ok (.ret u), hq => exact m.inv.after hq
  | .error e, hq => exact (show False from hq).elim⟩
/-- try: gave = a() / except e: return (word,); return gave -/
def TTry (K : PySem.W.Frag) (C : Addr) (word : Str) : (XK → Hp → VK → Prop) → Hp → VK → Prop := fun tl H Q =>
  tl (fun cls _ H' => ∃ b, PySem.W.exmOne K cls (.ref C) = some b ∧ (b = true → ∀ p, H' p = none → Q (.ref p) (upd H' p (.tup [.str word]))) ∧ (b = false → False)) H Q
end G
set_option Elab.async false
set_option linter.all false
set_option maxRecDepth 100000
set_option maxHeartbeats 4000000
/-! The law's defs: a great web. -/
namespace G
open PySem PySem.Spec PyProof.Rows L2 PySem.W
/-- a call whose arguments are told by more than one case -/
theorem y_callG {B : Bs} {g : Slots} {L : Ls} {ta : TA} {E : XK} {ι : Type} {P : Wd → ι → Prop} {ss : ι → List Sl} {post : ι → Sl} {ts : List Sl} {u : Sl} (h : YA B g L ta ts)
    (k : ∀ vs H, Paired (fun v (t : Sl) => t.p v H) vs ts → ∃ i, P B.W i ∧ Paired (fun v (t : Sl) => t.p v H) vs (ss i) ∧ ∀ v H', (post i).p v H' → u.p v H') : Y B g L (tCall (spG P ss post) [] E ta) u := fun s H a Q q => h s H a _ fun vs H1 e j p => by
  have a1 := a.hd.step e j
  obtain ⟨i, hp, p', up⟩ := k vs _ p
  exact ⟨B.W, L.map (·.1) ++ B.A, i, a1.full, hp, by rw [List.append_nil]; exact p', fun v H' e2 o2 r => q v H' (e.trans e2) o2.j (up v _ r)⟩
end G
namespace K29
open PySem PySem.Spec PyProof.Rows L2 G PySem.W TL
theorem ways_len {g : List Ln} (h : GrpOk g) : (waysOf g).length ≤ 8388608 := by
  have a := keptAll_len h.two (childrenOf g) [[]]
  have b : (waysOf g).length ≤ ((childrenOf g).foldl (keptStep g) [[]]).length := List.length_filter_le _ _
  have c : 2 ^ (childrenOf g).length ≤ 2 ^ 23 := Nat.pow_le_pow_right (by decide) h.ch
  have d : ([[]] : List (List Ln)).length = 1 := rfl
  rw [d, Nat.one_mul] at a
  have e : (2 : Nat) ^ 23 = 8388608 := by decide
  omega
theorem lines_pos {rows : List NRow} (ro : RowsOk rows) (h : 2 ≤ rows.length) : 0 < (linesOf rows).length := by
  have hr : rows[1]? = some rows[1] := List.getElem?_eq_getElem (by omega)
  have s := (ro.src 1 _ hr (by decide)).1
  have m : ((rows[1].2[0]'(by omega)), rows[1].1) ∈ linesOf rows := mem_lines.mpr ⟨rows[1], List.getElem_mem (by omega), rfl, List.getElem_mem _⟩
  exact List.length_pos_of_mem m
section
variable {P : Program} {w : World} {K : PySem.W.Frag} {mg : Str → Option Value} {base : Heap}
def NLgreat_right : List Str := ["_law_well_here", "_law_menu", "_law_rows", "_law_counts", "_law_lines_here", "_law_loads_here", "_law_net", "_law_best", "_law_turn", "_law_at", "_law_line", "_law_found", "_law_totals", "_law_flags", "_law_gave", "_law_due_here", "_law_rest", "_law_load", "_law_moved", "_law_later", "_law_way", "_law_one", "_law_total_here", "_law_keeps"]
theorem scLgreat_right : FnScope NLgreat_right ["_law_well_here"] (defScope s_Lgreat_right) := ⟨rfl, rfl, rfl, by decide +kernel, rfl, by decide +kernel, by decide +kernel⟩
abbrev gMenu : List Str := ["wide", "wide", "ring", "even", "wide", "ring"]
abbrev spLgreat (K : PySem.W.Frag) : Sp := sp1 (fun W (wl : Addr) => W = Ww wl) (fun wl : Addr => Vl (.ref wl)) fun _ => Is K true
theorem ok_Lgreat (M : Md K mg) (cLdraw : Cal P w K mg base 1 "_law_draw" ["_law_well_here", "_law_many"] (spdraw K)) (cLnames : Cal P w K mg base 2 "_law_names" ["_law_well_here", "_law_many"] (spLnames K))
    (cLlaid : Cal P w K mg base 2 "_law_laid" ["_law_well_here", "_law_names_here", "_law_menu", "_law_most", "_law_top"] (spLlaid K)) (cLlines : Cal P w K mg base 1 "_law_lines" ["_law_rows"] (spLlines K)) (cLloads : Cal P w K mg base 2 "_law_loads" ["_law_well_here", "_law_many"] (spLloads K))
    (cLtext : Cal P w K mg base 1 "_law_text" ["_law_rows"] (spLtext K)) (cWeb : C8.Mak P w K mg base 5 "Web" (He.ga K "Web") (spInit K) []) (cbest_sum : Cal P w K mg base 8 "best_sum" ["web", "weights"] (spbest_sum K)) (cLzigzag : Cal P w K mg base 1 "_law_zigzag" ["_law_lines_here", "_law_line"] (spLzigzag K))
    (cLkept_ways : Cal P w K mg base 1 "_law_kept_ways" ["_law_group"] (spLkept K)) (cworth : CalX P w K mg base 7 "worth" ["web", "weights", "source", "copy"] (spworth K)) (cLdue : Cal P w K mg base 1 "_law_due" ["_law_totals", "_law_flags"] (spLdue K)) (cLsame : Cal P w K mg base 2 "_law_same" ["_law_gave", "_law_due_here"] (spLsame K)) :
    Cal P w K mg base 9 "_law_great_right" ["_law_well_here"] (spLgreat K) := by
  obtain ⟨fd, F⟩ := M.d_Lgreat_right
  refine cal_mk F M.o_law_great_right scLgreat_right (fun _ _ _ _ _ _ us hl => match us, hl with | [_], _ => rfl) (fun _ => rfl) rfl fun cdv A outer s W A' H wl Q E hr8 hp ok hQ => ?_
  have hW : W = Ww wl := hp
  subst hW
  have hu := hr8.units
  have hr1 := hr8.mono (j := 1) (by decide)
  have hr2 := hr8.mono (j := 2) (by decide)
  have hr7 := hr8.mono (j := 7) (by decide)
  have nd := scLgreat_right.nd
  refine ⟨_,     (pss_cons (ps_set (i := 1) nd rfl (Or.inl rfl) (pe_lst (pa_cons pe_str (pa_cons pe_str (pa_cons pe_str (pa_cons pe_str (pa_cons pe_str (pa_cons pe_str pa_nil))))))))
    (pss_cons (ps_asg (pe_cal cLlaid hr2 (by rfl) (pa_cons (pv 0) (pa_cons (pe_cal cLnames hr2 (by rfl) (pa_cons (pv 0) (pa_cons (pe_ix (k_ixL K) (pe_lst (pa_cons pe_int (pa_cons pe_int (pa_cons pe_int (pa_cons pe_int pa_nil))))) (pe_cal cLdraw hr1 (by rfl) (pa_cons (pv 0) (pa_cons pe_int pa_nil))) (fun _ _ => rfl)) pa_nil))) (pa_cons (pv 1) (pa_cons pe_int (pa_cons pe_int pa_nil)))))) (k_pg K (n := 2) (pgs_cons (pg_name (i := 2) nd rfl (Or.inl rfl)) (pgs_cons (pg_name (i := 3) nd rfl (Or.inl rfl)) pgs_nil))))
    (pss_cons (ps_set (i := 4) nd rfl (Or.inr rfl) (pe_cal cLlines hr1 (by rfl) (pa_cons (pv 2) pa_nil)))
    (pss_cons (ps_asg (pe_tup (pa_cons (pe_cal cLloads hr2 (by rfl) (pa_cons (pv 0) (pa_cons (pe_callB (k_len K) (by rfl) M.mlen PySem.boot_len (pa_cons (pv 4) pa_nil)) pa_nil))) (pa_cons (C8.pe_mk cWeb hr8 (by decide) (by rfl) (pa_cons (pe_cal cLtext hr1 (by rfl) (pa_cons (pv 2) pa_nil)) pa_nil)) pa_nil))) (k_pg K (n := 2) (pgs_cons (pg_name (i := 5) nd rfl (Or.inr rfl)) (pgs_cons (pg_name (i := 6) nd rfl (Or.inl rfl)) pgs_nil))))
    (pss_cons (ps_set (i := 7) nd rfl (Or.inl rfl) (pe_cal cbest_sum hr8 (by rfl) (pa_cons (pv 6) (pa_cons (pe_callTy (k_tupOf K) (by rfl) M.mtuple (by decide +kernel) (pa_cons (pv 5) pa_nil)) pa_nil))))
    (pss_cons (ps_for PassesOwn.never rfl (pi_range1 (by rfl) M.mrange (pa_cons pe_int pa_nil)) (pg_name (i := 8) nd rfl (Or.inl rfl))
      (pss_cons (ps_set (i := 9) nd rfl (Or.inr rfl) (pe_cal cLdraw hr1 (by rfl) (pa_cons (pv 0) (pa_cons (pe_callB (k_len K) (by rfl) M.mlen PySem.boot_len (pa_cons (pv 4) pa_nil)) pa_nil))))
      (pss_cons (ps_asg (pe_tup (pa_cons (pe_ix (k_ixL K) (pv 4) (pv 9) (fun _ _ => rfl)) (pa_cons (pe_cal cLkept_ways hr1 (by rfl) (pa_cons (pe_cal cLzigzag hr1 (by rfl) (pa_cons (pv 4) (pa_cons (pe_ix (k_ixL K) (pv 4) (pv 9) (fun _ _ => rfl)) pa_nil))) pa_nil)) pa_nil))) (k_pg K (n := 2) (pgs_cons (pg_name (i := 10) nd rfl (Or.inr rfl)) (pgs_cons (pg_name (i := 11) nd rfl (Or.inl rfl)) pgs_nil))))
      (pss_cons (ps_setLc (i := 12) rfl nd rfl rfl (sw_true rfl rfl rfl (by decide +kernel)) (k_list K (pv 11)) (blkOk_by (N := NLgreat_right) (sc := defScope s_Lgreat_right) (own := [("_law_way", 20)]) (by decide +kernel)) (fun _ _ _ _ _ => (pg_name (i := 20) nd rfl (Or.inl rfl))) (fun _ _ _ _ _ => pts_nil) (fun _ _ _ _ _ => (pe_callB (k_sum K) (by rfl) M.msum (by decide +kernel) (pa_cons (pe_lc rfl nd (k_tup K (pv 20)) (blkOk_by (N := NLgreat_right) (own := [("_law_one", 21)]) (by show blkC NLgreat_right (relS _ ((defScope s_Lgreat_right))) _ _ = true; decide +kernel)) (fun _ _ _ _ _ => (pg_name (i := 21) nd rfl (Or.inl rfl))) (fun _ _ _ _ _ => pts_nil) (fun _ _ _ _ _ => (pe_ix (k_ixL K) (pv 5) (k_bm K PySem.F.plainAttrs_list PySem.F.slot_list_index PySem.F.type_list_index (k_indexT K (Str × Str) hu) (pv 4) (pa_cons (pv 21) pa_nil)) (fun _ _ => rfl)))) pa_nil))))
      (pss_cons (ps_setLc (i := 13) rfl nd rfl rfl (sw_true rfl rfl rfl (by decide +kernel)) (k_list K (pv 11)) (blkOk_by (N := NLgreat_right) (sc := defScope s_Lgreat_right) (own := [("_law_way", 20)]) (by decide +kernel)) (fun _ _ _ _ _ => (pg_name (i := 20) nd rfl (Or.inl rfl))) (fun _ _ _ _ _ => pts_nil) (fun _ _ _ _ _ => (pe_cmpR (k_in K (Str × Str) hu) (pv 10) (pv 20) rfl)))
      (pss_cons (ps_par (i := 14) (j := 15) (by rfl) nd rfl rfl (by decide) rfl rfl (pa_cons (pe_calX cworth passX0 hr7 (by rfl) (pa_cons (pv 6) (pa_cons (pe_callTy (k_tupOf K) (by rfl) M.mtuple (by decide +kernel) (pa_cons (pv 5) pa_nil)) (pa_cons (pe_ix (k_ixU K) (pv 10) pe_int (fun _ _ => rfl)) (pa_cons (pe_ix (k_ixU K) (pv 10) pe_int (fun _ _ => rfl)) pa_nil))))) (pa_cons (pe_cal cLdue hr1 (by rfl) (pa_cons (pv 12) (pa_cons (pv 13) pa_nil))) pa_nil)) (by rfl))
      (pss_cons (ps_if (pt_not (pt_val (pe_cal cLsame hr2 (by rfl) (pa_cons (pv 14) (pa_cons (pv 15) pa_nil)))))
        (pss_cons (ps_ret pe_bl)
        pss_nil)
        pss_nil)
      (pss_cons (ps_set (i := 16) nd rfl (Or.inl rfl) (pe_op op_sub (pv 7) (pe_callB (k_max K) (by rfl) M.mmax (by decide +kernel) (pa_cons (pv 12) pa_nil))))
      (pss_cons (ps_for PassesOwn.never rfl (k_list K (pe_lst (pa_cons (pe_op op_pow pe_int pe_int) (pa_cons (pe_un un_neg (pe_op op_pow pe_int pe_int)) (pa_cons (pe_op op_sub (pe_op op_add (pe_ix (k_ixL K) (pv 5) (pv 9) (fun _ _ => rfl)) pe_int) (pe_op op_mul pe_int (pe_callTy call_int1 (by rfl) M.mint (by decide +kernel) (pa_cons (pe_cmpR op_gt (pe_ix (k_ixL K) (pv 5) (pv 9) (fun _ _ => rfl)) pe_int (nomark _)) pa_nil)))) pa_nil))))) (pg_name (i := 17) nd rfl (Or.inr rfl))
        (pss_cons (ps_setLc (i := 18) rfl nd rfl rfl (sw_true rfl rfl rfl (by decide +kernel)) (k_zip K false false (by rfl) M.mzip (pa_cons (pv 12) (pa_cons (pv 13) pa_nil))) (blkOk_by (N := NLgreat_right) (sc := defScope s_Lgreat_right) (own := [("_law_total_here", 22), ("_law_keeps", 23)]) (by decide +kernel)) (fun _ _ _ _ _ => (k_pg K (n := 2) (pgs_cons (pg_name (i := 22) nd rfl (Or.inl rfl)) (pgs_cons (pg_name (i := 23) nd rfl (Or.inl rfl)) pgs_nil)))) (fun _ _ _ _ _ => pts_nil) (fun _ _ _ _ _ => (pe_ifExp (pt_val (pv 23)) (pe_op op_sub (pe_op op_add (pv 22) (pv 17)) (pe_ix (k_ixL K) (pv 5) (pv 9) (fun _ _ => rfl))) (pv 22))))
        (pss_cons (ps_set (i := 19) nd rfl (Or.inl rfl) (pe_callTy (k_tupOf K) (by rfl) M.mtuple (by decide +kernel) (pa_cons (pe_op (k_catL K) (pe_op (k_catL K) (pe_slice (k_slL K) (pv 5) po_none (po_some (pv 9))) (pe_lst (pa_cons (pv 17) pa_nil))) (pe_slice (k_slL K) (pv 5) (po_some (pe_op op_add (pv 9) pe_int)) po_none)) pa_nil)))
        (pss_cons (ps_if (pt_not (pt_val (pe_cal cLsame hr2 (by rfl) (pa_cons (pe_cal cbest_sum hr8 (by rfl) (pa_cons (pv 6) (pa_cons (pv 19) pa_nil))) (pa_cons (pe_op op_add (pv 16) (pe_callB (k_max K) (by rfl) M.mmax (by decide +kernel) (pa_cons (pv 18) pa_nil))) pa_nil)))))
          (pss_cons (ps_ret pe_bl)
          pss_nil)
          pss_nil)
        pss_nil))))
      pss_nil)))))))))
    (pss_cons (ps_ret pe_bl)
    pss_nil))))))), ?_⟩
  dsimp only [cxOf, Cx.nox, Cx.wish]
  show YS ⟨Ww wl, A', H, []⟩ [some (Vl (.ref wl)), none, none, none, none, none, none, none, none, none, none, none, none, none, none, none, none, none, none, none, none, none, none, none] [] _ _
  refine ys_setD (t := Is K gMenu) (YF.dat (yf_lst (yi_cons y_str (yi_cons y_str (yi_cons y_str (yi_cons y_str (yi_cons y_str (yi_cons y_str yi_nil)))))) (by show 6 ≤ sizeLine; decide))) ?_
  have pickN : ∀ i : Int, 0 ≤ i ∧ i < 4 → ∃ x : Int, atI [(9 : Int), 13, 17, 24] i = some x := fun i h => by
    have hn : i.toNat < 4 := by omega
    have e := atI_nat (xs := [(9 : Int), 13, 17, 24]) (j := i.toNat) (List.getElem?_eq_getElem hn)
    rw [show ((i.toNat : Nat) : Int) = i by omega] at e
    exact ⟨_, e⟩
  have inN : ∀ (i x : Int), 0 ≤ i ∧ i < 4 → atI [(9 : Int), 13, 17, 24] i = some x → 2 ≤ x ∧ x ≤ 24 := fun i x h e => by
    have hi : i = 0 ∨ i = 1 ∨ i = 2 ∨ i = 3 := by omega
    rcases hi with z | z | z | z <;> subst z <;> cases e <;> decide
  refine ys_asgE (K := K) (A := fun p : List (Str × Tup Str) × List Int => ∃ n : Nat, n ≤ 24 ∧ LaidP n gMenu p) (us := fun x => [(2, Is K x.1), (3, Is K x.2)]) ?_ (fun x => yg_pair yg_name yg_name) ?_
  · refine y_callG (ts := [Vl (.ref wl), Ex K fun ns : List Str => 2 ≤ ns.length ∧ ns.length ≤ 24 ∧ NsOk ns.length ns, Is K gMenu, Is K (40 : Int), Is K (5 : Int)]) (ya_cons (y_var rfl) (ya_cons ?_ (ya_cons (y_var rfl) (ya_cons y_int (ya_cons y_int ya_nil))))) fun vs H1 p => ?_
    · refine y_callG (ts := [Vl (.ref wl), Ex K fun m : Int => 2 ≤ m ∧ m ≤ 24]) (ya_cons (y_var rfl) (ya_cons (Y.exm (y_ixLE (xs := [(9 : Int), 13, 17, 24]) (Y.q (YF.dat (yf_lst (yi_cons y_int (yi_cons y_int (yi_cons y_int (yi_cons y_int yi_nil)))) (by show 4 ≤ sizeLine; decide)))) (Y.loose (y_draw (m := 4) rfl (ya_cons (y_var rfl) (ya_cons y_int ya_nil)) (by decide) (by decide))) pickN) fun x ⟨i, hi, e⟩ => inN i x hi e) ya_nil)) fun vs H1 p => ?_
      cases p with
      | cons p0 p =>
        cases p with
        | cons p1 p =>
          cases p
          obtain ⟨m, hm, r⟩ := p1
          refine ⟨(wl, m), ⟨rfl, by show 0 ≤ m; omega, hm.2⟩, .cons p0 (.cons r .nil), fun v H' ⟨ns, hn, q⟩ => ⟨ns, ?_, q⟩⟩
          have hn : NsOk m.toNat ns := hn
          have e := hn.1
          exact ⟨by omega, by omega, by rw [e]; exact hn⟩
    · cases p with
      | cons p0 p =>
        cases p with
        | cons p1 p =>
          obtain ⟨ns, hn, r⟩ := p1
          refine ⟨(wl, ns, gMenu, 40, 5), ⟨rfl, hn.1, hn.2.1, hn.2.2, by simp, by show 6 ≤ 8; decide, by show (1 : Int) ≤ 5; decide⟩, .cons p0 (.cons r p), fun v H' ⟨x, hx, q⟩ => ⟨x, ⟨ns.length, hn.2.1, hx⟩, q⟩⟩
  rintro ⟨rs, cs⟩ ⟨n, h24, rows, e, ro, l2, ln, pm⟩
  have e : rs = rows.map dRow := e
  subst e
  have pk : Pickable rows := pm (by decide)
  have hne : rows ≠ [] := fun e => by rw [e] at l2; simp at l2
  have r24 : rows.length ≤ 24 := by omega
  have lp := lines_pos ro l2
  have l80 : (linesOf rows).length ≤ 80 := by rw [lines_len]; exact ro.few
  have net := net_ok ro
  refine ys_setD (t := Is K (linesOf rows)) (y_call1 (x := rows) (ya_cons (y_var rfl) ya_nil) ro) ?_
  refine ys_tup2 (O1 := oEx K fun ws : List Int => LdOk (linesOf rows).length ws) (O2 := oDat (NT K (netOf rows))) (Y.oe (Y.exm (y_call2 (x := wl) (y := ((linesOf rows).length : Int)) (ya_cons (y_var rfl) (ya_cons (y_lenL (Y.loose (y_var rfl))) ya_nil)) ⟨rfl, by omega, by omega⟩) fun ws h => by rwa [Int.toNat_natCast] at h)) (fun u L1 o => ?_) ?_
  · obtain ⟨ws, _, rfl, rfl⟩ := o
    exact Y.o (y_make (ya_cons (y_call1 (x := rows) (ya_cons (y_var rfl) ya_nil) ⟨ro.len, ro.join⟩) ya_nil) ro (ro.txt hne))
  rintro _ _ _ _ ⟨ws, hws, rfl, rfl⟩ ⟨rfl, rfl⟩
  have hws : LdOk (linesOf rows).length ws := hws
  have wsok : WsOk (netOf rows) ws := ⟨hws.1, hws.2⟩
  have gn := great_num ro pk
  refine ys_setD (t := Is K (bestWith (netOf rows) ws nofix)) (y_call2 (x := netOf rows) (y := ws) (ya_cons (y_var rfl) (ya_cons (y_tupL (Y.q (y_var rfl))) ya_nil)) ⟨net, wsok, gn⟩) ?_
  refine ys_forB K (ι := Unit) (xs := rngI 0 (3 : Int).toNat) (us := fun _ x => [(8, Is K x)]) (fun _ _ => True) (fun _ => [some (Vl (.ref wl)), none, some (Is K (rows.map dRow)), none, some (Is K (linesOf rows)), some (Is K ws), some (NT K (netOf rows)), some (Is K (bestWith (netOf rows) ws nofix)), none, none, none, none, none, none, none, none, none, none, none, none, none, none, none, none]) (fun _ => []) ?_ ?_ ?_ ?_ ?_
  · exact yi_range1 (yal_cons (Y.loose y_int) yal_nil) (by decide) (by decide)
  · exact ⟨(), trivial, .keep (.drop (.keep (.drop (.keep (.keep (.keep (.keep (.keep (.keep (.keep (.keep (.keep (.keep (.keep (.keep (.keep (.keep (.keep (.keep (.keep (.keep (.keep (.keep .nil))))))))))))))))))))))), List.Sublist.refl _⟩
  · exact fun X d x _ => yg_name
  · rintro X k - x hx -
    refine ys_setE (K := K) (A := fun a : Int => 0 ≤ a ∧ a < ((linesOf rows).length : Int)) (y_draw rfl (ya_cons (y_var rfl) (ya_cons (y_lenL (Y.loose (y_var rfl))) ya_nil)) (by omega) (by omega)) fun at_ hat => ?_
    obtain ⟨i, rfl⟩ : ∃ i : Nat, at_ = (i : Int) := ⟨at_.toNat, by omega⟩
    have hi : i < (linesOf rows).length := by omega
    obtain ⟨l, hl⟩ : ∃ l, (linesOf rows)[i]? = some l := ⟨_, List.getElem?_eq_getElem hi⟩
    have atl : atI (linesOf rows) ((i : Nat) : Int) = some l := atI_nat (xs := linesOf rows) (j := i) hl
    obtain ⟨r, z⟩ := zig_ok ro (List.mem_of_getElem? hl)
    have grp := z.grp ro r24
    have wl8 := ways_len grp
    generalize hg : zigOf (linesOf rows) l = g at *
    refine ys_tup2 (O1 := oDat (Is K l)) (O2 := oDat (Is K ((waysOf g).map Tup.mk))) (Y.o (y_ixL (Y.q (y_var rfl)) (Y.loose (y_var rfl)) atl)) (fun u L1 o => ?_) ?_
    · obtain ⟨rfl, rfl⟩ := o
      refine Y.o (y_call1 (x := g) (ya_cons ?_ ya_nil) grp)
      rw [← hg]
      exact y_call2 (x := linesOf rows) (y := l) (ya_cons (y_var rfl) (ya_cons (y_ixL (Y.q (y_var rfl)) (Y.loose (y_var rfl)) atl) ya_nil)) l80
    rintro _ _ _ _ ⟨rfl, rfl⟩ ⟨rfl, rfl⟩
    have zw : ∀ w, w ∈ waysOf g → w.length ≤ 23 ∧ ∀ o, o ∈ w → o ∈ linesOf rows := fun w hw => by
      obtain ⟨a, b, _⟩ := mem_ways.mp hw
      refine ⟨?_, fun o ho => ((rowsIn_ok (rows_deg ro)).ok r z.hr).sub o ((z.mem o).mp (a o ho))⟩
      have := congrArg List.length b
      rw [List.length_map] at this
      rw [this]
      exact grp.ch
    have wsl : ws.length = (linesOf rows).length := hws.1
    refine ys_setD (t := Is K ((waysOf g).map (wsumOf (linesOf rows) ws))) (YF.dat (YF.to (yf_lc1 (vs := [20]) (xs := (waysOf g).map Tup.mk) (us := fun y => [(20, Is K y)]) (f := fun y : Tup Ln => wsumOf (linesOf rows) ws y.items) (yi_list (y_var rfl)).loose (by rw [List.length_map, sizeLine_eq]; omega) (fun D y _ => yg_name) (fun y _ i hi => by simpa using hi) (fun D y hy => ?_)) (by rw [List.map_map]; rfl))) ?_
    · obtain ⟨w, hw, rfl⟩ := List.mem_map.mp hy
      obtain ⟨w1, w2⟩ := zw w hw
      refine y_sum (Y.loose (YF.dat (yf_lc1 (vs := [21]) (xs := w) (us := fun y => [(21, Is K y)]) (f := fun o => ws.getD (idxB o (linesOf rows)) 0) (yi_tup (y_var rfl)).loose (by rw [sizeLine_eq]; omega) (fun D y _ => yg_name) (fun y _ i hi => by simpa using hi) (fun D o ho => y_ixL (Y.q (y_var rfl)) (Y.loose (y_indexT (Y.loose (y_var rfl)) (Y.loose (y_var rfl)) (by rw [sizeLine_eq]; omega) (w2 o ho))) ?_))))
      have hlt := idxB_lt (w2 o ho)
      refine atI_nat ?_
      rw [List.getD_eq_getElem?_getD, List.getElem?_eq_getElem (by omega)]
      rfl
    refine ys_setD (t := Is K ((waysOf g).map fun w => inB l w)) (YF.dat (YF.to (yf_lc1 (vs := [20]) (xs := (waysOf g).map Tup.mk) (us := fun y => [(20, Is K y)]) (f := fun y : Tup Ln => inB l y.items) (yi_list (y_var rfl)).loose (by rw [List.length_map, sizeLine_eq]; omega) (fun D y _ => yg_name) (fun y _ i hi => by simpa using hi) (fun D y hy => ?_)) (by rw [List.map_map]; rfl))) ?_
    · exact y_inU (bs := y.items) (Y.loose (y_var rfl)) (Y.loose (y_var rfl))
    have ne := z.some ro pk
    refine ys_par (O1 := oDat (OI K (worthOf (netOf rows) ws l))) (O2 := oDat (OI K (dueOf ((waysOf g).map (wsumOf (linesOf rows) ws)) ((waysOf g).map fun w => inB l w)))) (Y.o (y_callX (netOf rows, ws, l.1, l.2) (ya_cons (y_var rfl) (ya_cons (y_tupL (Y.q (y_var rfl))) (ya_cons (y_ix0 (y_var rfl)) (ya_cons (y_ix1 (y_var rfl)) ya_nil)))) ⟨net, wsok, List.mem_of_getElem? hl⟩ (decide_eq_false gn))) (fun u L1 o => ?_) ?_
    · obtain ⟨rfl, rfl⟩ := o
      exact Y.o (y_call2 (x := (waysOf g).map (wsumOf (linesOf rows) ws)) (y := (waysOf g).map fun w => inB l w) (ya_cons (y_var rfl) (ya_cons (y_var rfl) ya_nil)) (by show ((waysOf g).map _).length ≤ 16000000; rw [List.length_map]; omega))
    rintro _ _ _ _ ⟨rfl, rfl⟩ ⟨rfl, rfl⟩
    rw [great_worth ro pk wsl z]
    refine ys_if (c := !true) (yt_not (yt_val (K := K) (Y.loose (y_call2 (x := Ans.oi (worthOf (netOf rows) ws l)) (y := Ans.oi (worthOf (netOf rows) ws l)) (ya_cons (y_var rfl) (ya_cons (y_var rfl) ya_nil)) rfl)))) (fun h => by cases h) fun _ => ys_then ?_
    have tne : (waysOf g).map (wsumOf (linesOf rows) ws) ≠ [] := fun e => ne (List.map_eq_nil_iff.mp e)
    refine ys_setD (t := Is K (bestWith (netOf rows) ws nofix - mxI ((waysOf g).map (wsumOf (linesOf rows) ws)))) (y_opI (f := fun i j => i - j) (Y.loose (y_var rfl)) (Y.loose (y_max (Y.loose (y_var rfl)) tne))) ?_
    have ati : atI ws ((i : Nat) : Int) = some (ws.getD i 0) := by
      refine atI_nat ?_
      rw [List.getD_eq_getElem?_getD, List.getElem?_eq_getElem (by omega)]
      rfl
    have wi : WtOk (ws.getD i 0) := by
      refine hws.2 _ ?_
      rw [List.getD_eq_getElem?_getD, List.getElem?_eq_getElem (by omega)]
      exact List.getElem_mem _
    refine ys_forB K (ι := Unit) (xs := [(10 : Int) ^ (12 : Int).toNat, -((10 : Int) ^ (12 : Int).toNat), ws.getD i 0 + 1 - 2 * (if decide (0 < ws.getD i 0) then 1 else 0)]) (us := fun _ x => [(17, Is K x)]) (fun _ _ => True) (fun _ => [some (Vl (.ref wl)), none, some (Is K (rows.map dRow)), none, some (Is K (linesOf rows)), some (Is K ws), some (NT K (netOf rows)), some (Is K (bestWith (netOf rows) ws nofix)), none, some (Is K ((i : Nat) : Int)), none, none, some (Is K ((waysOf g).map (wsumOf (linesOf rows) ws))), some (Is K ((waysOf g).map fun w => inB l w)), none, none, some (Is K (bestWith (netOf rows) ws nofix - mxI ((waysOf g).map (wsumOf (linesOf rows) ws)))), none, none, none, none, none, none, none]) (fun _ => []) ?_ ?_ ?_ ?_ ?_
    · refine yi_list (YF.dat (yf_lst (yi_cons (y_opC (f := fun i j => i ^ j.toNat) (Y.loose y_int) (Y.loose y_int) ⟨by decide, by decide, by decide⟩) (yi_cons (y_neg (Y.loose (y_opC (f := fun i j => i ^ j.toNat) (Y.loose y_int) (Y.loose y_int) ⟨by decide, by decide, by decide⟩))) (yi_cons ?_ yi_nil))) (by show 3 ≤ sizeLine; decide)))
      exact y_opI (f := fun i j => i - j) (Y.loose (y_opI (f := fun i j => i + j) (Y.loose (y_ixL (Y.q (y_var rfl)) (Y.loose (y_var rfl)) ati)) (Y.loose y_int))) (Y.loose (y_opC (f := fun i j => i * j) (Y.loose y_int) (Y.loose (y_intB (Y.loose (y_opB (f := fun i j => decide (j < i)) (Y.loose (y_ixL (Y.q (y_var rfl)) (Y.loose (y_var rfl)) ati)) (Y.loose y_int))))) (.inl ⟨by decide, by decide⟩)))
    · exact ⟨(), trivial, .keep (.keep (.keep (.keep (.keep (.keep (.keep (.keep (.drop (.keep (.drop (.drop (.keep (.keep (.drop (.drop (.keep (.keep (.keep (.keep (.keep (.keep (.keep (.keep .nil))))))))))))))))))))))), List.Sublist.refl _⟩
    · exact fun X d x _ => yg_name
    · rintro X2 k2 - x hx -
      have hx := List.mem_of_getElem? hx
      have xok : WtOk x := by
        rcases List.mem_cons.mp hx with e | hx
        · rw [e]; exact ⟨by decide, by decide⟩
        · rcases List.mem_cons.mp hx with e | hx
          · rw [e]; exact ⟨by decide, by decide⟩
          · rw [List.mem_singleton.mp hx]
            obtain ⟨a, b⟩ := wi
            by_cases c : 0 < ws.getD i 0
            · rw [decide_eq_true c, if_pos rfl]
              exact ⟨by omega, by omega⟩
            · rw [decide_eq_false c, if_neg Bool.false_ne_true]
              exact ⟨by omega, by omega⟩
      refine ys_setD (t := Is K ((waysOf g).map fun w => if inB l w then wsumOf (linesOf rows) ws w + x - ws.getD i 0 else wsumOf (linesOf rows) ws w)) (YF.dat (YF.to (yf_lc1 (vs := [22, 23]) (xs := ((waysOf g).map (wsumOf (linesOf rows) ws)).zip ((waysOf g).map fun w => inB l w)) (us := fun y => [(22, Is K y.1), (23, Is K y.2)]) (f := fun y : Int × Bool => if y.2 then y.1 + x - ws.getD i 0 else y.1) (yi_zip (b1 := false) (b2 := false) (ya_cons (y_var rfl) (ya_cons (y_var rfl) ya_nil))).loose ?_ (fun D y _ => yg_pair yg_name yg_name) (fun y _ i hi => by simpa using hi) (fun D y hy => ?_)) ?_)) ?_
      · rw [List.length_zip, List.length_map, List.length_map, sizeLine_eq]
        omega
      · exact y_ifI (yt_val (K := K) (Y.loose (y_var rfl))) (fun _ => y_opI (f := fun i j => i - j) (Y.loose (y_opI (f := fun i j => i + j) (Y.loose (y_var rfl)) (Y.loose (y_var rfl)))) (Y.loose (y_ixL (Y.q (y_var rfl)) (Y.loose (y_var rfl)) ati))) fun _ => y_var rfl
      · rw [List.zip_map', List.map_map]
        rfl
      have e3 : cutL ws none (some ((i : Nat) : Int)) ++ [x] ++ cutL ws (some (((i : Nat) : Int) + 1)) none = ws.set i x := by
        have e4 : ((i : Nat) : Int) + 1 = ((i + 1 : Nat) : Int) := by omega
        rw [e4, cutL_take, cutL_drop, List.append_assoc, List.set_eq_take_append_cons_drop, if_pos (by omega)]
        rfl
      have lt1 : (ws.take i).length ≤ 80 := by rw [List.length_take]; omega
      have lt2 : (ws.drop (i + 1)).length ≤ 80 := by rw [List.length_drop]; omega
      have c1 : (cutL ws none (some ((i : Nat) : Int))).length ≤ 80 := by rw [cutL_take]; exact lt1
      have c2 : (cutL ws (some (((i : Nat) : Int) + 1)) none).length ≤ 80 := by rw [show ((i : Nat) : Int) + 1 = ((i + 1 : Nat) : Int) by omega, cutL_drop]; exact lt2
      refine ys_setD (t := Is K (Tup.mk (ws.set i x))) (y_tupL (Y.q (YF.dat (YF.to (yf_cat (Y.q (YF.dat (yf_cat (Y.q (YF.dat (yf_slL (Y.q (y_var rfl)) yo_no (yo_some (K := K) (Y.loose (y_var rfl)))))) (Y.q (YF.dat (yf_lst (yi_cons (y_var rfl) yi_nil) (by show 1 ≤ sizeLine; decide)))) ?_))) (Y.q (YF.dat (yf_slL (Y.q (y_var rfl)) (yo_some (K := K) (Y.loose (y_opI (f := fun i j => i + j) (Y.loose (y_var rfl)) (Y.loose y_int)))) yo_no))) ?_) e3)))) ?_
      · rw [sizeLine_eq]
        show _ + 1 ≤ _
        omega
      · rw [List.length_append, sizeLine_eq]
        show _ + 1 + _ ≤ _
        omega
      have mv := great_moved ro pk wsl z hl x
      have mne : ((waysOf g).map fun w => if inB l w then wsumOf (linesOf rows) ws w + x - ws.getD i 0 else wsumOf (linesOf rows) ws w) ≠ [] := fun e => ne (List.map_eq_nil_iff.mp e)
      have wsok2 : WsOk (netOf rows) (ws.set i x) := ⟨by rw [List.length_set]; exact wsl, fun y hy => by
        rcases List.mem_or_eq_of_mem_set hy with q | q
        · exact hws.2 y q
        · rw [q]; exact xok⟩
      refine ys_if (c := !true) (yt_not (yt_val (K := K) (Y.loose (y_call2 (x := Ans.oi (some (bestWith (netOf rows) (ws.set i x) nofix))) (y := Ans.oi (some (bestWith (netOf rows) (ws.set i x) nofix))) (ya_cons (y_call2 (x := netOf rows) (y := ws.set i x) (ya_cons (y_var rfl) (ya_cons (y_var rfl) ya_nil)) ⟨net, wsok2, gn⟩) (ya_cons (Y.to (y_opI (f := fun i j => i + j) (Y.loose (y_var rfl)) (Y.loose (y_max (Y.loose (y_var rfl)) mne))) mv.symm) ya_nil)) rfl)))) (fun h => by cases h) fun _ => ys_then ?_
      exact ys_next fun s H a => ⟨(), trivial, a.weak (.keep (.keep (.keep (.keep (.keep (.keep (.keep (.keep (.keep (.keep (.keep (.keep (.keep (.keep (.keep (.keep (.keep (.drop (.drop (.drop (.keep (.keep (.keep (.keep .nil))))))))))))))))))))))))⟩
    · rintro - -
      exact ys_next fun s H a => ⟨(), trivial, a.weak (.keep (.keep (.keep (.keep (.keep (.keep (.keep (.keep (.keep (.drop (.keep (.keep (.drop (.drop (.keep (.keep (.drop (.keep (.keep (.keep (.keep (.keep (.keep (.keep .nil))))))))))))))))))))))))⟩
  · rintro - -
    exact ys_ret (t := Is K true) y_bl hQ
end
end K29
set_option Elab.async false
set_option linter.all false
set_option maxRecDepth 100000
set_option maxHeartbeats 4000000
/-! A table of code objects as a thing of one's own; what may change it. -/
namespace G
open PySem PySem.Spec PyProof.Rows L2 LamX PySem.W
/-- the table's content: what it tells stands in the heap -/
def LoTab (q : Str) : Lo := ⟨fun o H => ∃ ps : Array Value, o = .tbl ps ∧ TriplesOk ps.toList ∧ ∀ (pos : Pos) (cv : Value), codeAmong pos ps.toList = some cv → ∃ c, cv = .ref c ∧ H c = some (CodeO c q),
  fun e ⟨ps, h1, h2, h3⟩ => ⟨ps, h1, h2, fun pos cv h => let ⟨c, e1, e2⟩ := h3 pos cv h; ⟨c, e1, e _ _ e2⟩⟩⟩
/-- an expression that may change the own things, as long as they are what they are told to be -/
def YU (B : Bs) (g : Slots) (L : Ls) (te : TE) (t : Sl) : Prop := ∀ s H, At B g L s H → ∀ Q : VK, (∀ v H', At B g L s H' → t.p v (vw B L H') → Q v H') → te s H Q
section
variable {K : PySem.W.Frag} {B : Bs} {g : Slots} {L : Ls} {te t1 t2 : TE} {tt : TT} {ts : TS} {D : Ends} {rest : TS} {P : Addr} {t : Sl} {E : XK}
theorem Y.up (h : Y B g L te t) : YU B g L te t := fun s H a Q k => h s H a Q fun v H' e j p => k v H' (a.step e j) p
/-- one own thing is changed, all else is kept -/
theorem At.tab {s : L2.St} {H H1 : Hp} {j : Nat} {lo : Lo} {o : HO} (a : At B g L s H) (hl : L[j]? = some (P, lo)) (e : Ext1 P H H1) (ho : H1 P = some o) (hp : lo.p o (vw B L H1)) : At B g L s H1 := by
  have mem : (P, lo) ∈ L := List.mem_of_getElem? hl
  have inL : P ∈ L.map (·.1) ++ B.A := List.mem_append_left _ (List.mem_map.mpr ⟨_, mem, rfl⟩)
  have nA := (a.hd.new _ mem).2
  have h0 := (a.hd.new _ mem).1
  have nM : P ∉ B.W.M := a.hd.nm _ mem
  have sm : Same (vw B L H) (vw B L H1) := fun b o h => by
    obtain ⟨h1, h2⟩ := cut_of h
    show cut _ H1 b = some o
    rw [cut_out h1]
    exact e b o (fun z => h1 (by rw [z]; exact inL)) h2
  have uniq : ∀ r, r ∈ L → r.1 = P → r = (P, lo) := fun r hr z => by
    obtain ⟨i, hi⟩ := List.mem_iff_getElem?.mp hr
    have n := a.hd.nd
    have q1 : (L.map (·.1))[j]? = some P := by rw [List.getElem?_map, hl]; rfl
    have q2 : (L.map (·.1))[i]? = some P := by rw [List.getElem?_map, hi]; exact congrArg some z
    obtain ⟨b1, c1⟩ := List.getElem?_eq_some_iff.mp q1
    obtain ⟨b2, c2⟩ := List.getElem?_eq_some_iff.mp q2
    have ij : j = i := (List.getElem_inj n).mp (c1.trans c2.symm)
    rw [← ij, hl] at hi
    exact (Option.some.inj hi).symm
  refine ⟨⟨⟨a.hd.ok.sub, B.W.jd (fun b hb => ?_) a.hd.ok.j, fun b hb => ?_⟩, fun b o hb h => ?_, a.hd.new, a.hd.nd, fun r hr => ?_, fun r hr => r.2.mono sm (a.hd.x r hr)⟩, a.sg.mono sm⟩
  · cases r : H b with
    | none => exact absurd r (B.W.jm a.hd.ok.j b hb)
    | some o => exact e b o (fun z => nM (by rw [← z]; exact hb)) r
  · cases r : H b with
    | none => exact absurd r (a.hd.ok.av b hb)
    | some o => rw [e b o (fun z => nA (by rw [← z]; exact hb)) r]; exact fun z => by cases z
  · exact e b o (fun z => by rw [z, h0] at h; cases h) (a.hd.le b o hb h)
  · by_cases z : r.1 = P
    · rw [uniq r hr z]
      exact ⟨o, ho, hp⟩
    · obtain ⟨o', e1, e2⟩ := a.hd.lo r hr
      exact ⟨o', e _ _ z e1, r.2.mono sm e2⟩
theorem yu_call2 {α β : Type} {Pc : Wd → α → β → Prop} {s1 : α → Sl} {s2 : β → Sl} {post : α → β → Sl} {x : α} {y : β} (h1 : YU B g L t1 (s1 x)) (h2 : Y B g L t2 (s2 y)) (hp : Pc B.W x y) : YU B g L (tCall (sp2 Pc s1 s2 post) [] E (tCons t1 (tCons t2 tNil))) (post x y) := fun s H a Q k =>
  h1 s H a _ fun v H1 a1 p1 => h2 s H1 a1 _ fun w H2 e2 j2 p2 => by
    have a2 := a1.step e2 j2
    exact ⟨B.W, L.map (·.1) ++ B.A, (x, y), a2.hd.full, hp, .cons ((s1 x).mono (a1.hd.same e2) p1) (.cons p2 .nil), fun v H' e3 o3 r => k v H' (a2.step e3 o3.j) r⟩
/-- if not e: .., e being true -/
theorem ys_ifU (h : YU B g L te (Is K true)) (k : YS B g L rest D) : YS B g L (tSeq (tIfS (tNot (tB te)) ts tNext) rest) D := fun s H a => h s H a _ fun v H' a' p => ⟨true, bl_rp p, k s H' a'⟩
/-- if not e or f: .., e being true and f false -/
theorem ys_ifU2 (h : YU B g L te (Is K true)) (h2 : YT B g L tt false) (k : YS B g L rest D) : YS B g L (tSeq (tIfS (tOr (tNot (tB te)) tt) ts tNext) rest) D := fun s H a => h s H a _ fun v H' a' p => ⟨true, bl_rp p, by
  refine h2 s H' a' _ fun c H2 e j hc => ?_
  subst hc
  exact k s H2 (a'.step e j)⟩
theorem ys_retA (h : Y B g L te t) (hr : ∀ v s H, At B g L s H → t.p v (vw B L H) → D.rt v H) : YS B g L (tSeq (tRet te) rest) D := fun s H a => h s H a _ fun v H' e j p => hr v s H' (a.step e j) p
end
end G
set_option Elab.async false
set_option linter.all false
set_option maxRecDepth 100000
set_option maxHeartbeats 4000000
/-! The law's defs: a small web. -/
namespace K29
open PySem PySem.Spec PyProof.Rows L2 G PySem.W TL
def NLtry : List Str := ["_law_act", "_law_gave"]
theorem scLtry : FnScope NLtry ["_law_act"] (defScope s_Ltry) := ⟨rfl, rfl, rfl, by decide +kernel, rfl, by decide +kernel, by decide +kernel⟩
/-- what a call returns, or a word for NoChoice -/
theorem try_gives {X : Cx} (M : Md X.K X.mg) {g : Addr} {cdg : Value} {q : Str} : LamX.GivesTo X NLtry "_law_try" (defScope s_Ltry) g cdg (defBody s_Ltry) "_law_act" q (TTry X.K (He.ga X.K "NoChoice") "NoChoice") := by
  intro f c' s H Q tl act hc h
  have nd := scLtry.nd
  refine ⟨_, pss_cons (ps_try_only (X := (cxOf C8.CX0 X.prog X.w X.K X.mg X.base NLtry "_law_try" (defScope s_Ltry) g cdg X.A X.stack s H C8.E0).nox) (c := .ref (He.ga X.K "NoChoice"))
      (tb := fun W D σ H => ∃ Ech : XK, (∀ cls d σ' H', Ech cls d H' → W cls d σ' H') ∧ (tSeq (tAsg (fun σZ HZ Q => σZ[0]? = some (some (.ref f)) ∧ HZ c' = some (LamX.CodeO c' q) ∧ tl Ech HZ Q) (gName 1)) tNext) D σ H)
      rfl rfl ⟨rfl, by decide, .inl M.oNoChoice⟩ LamX.takes0 (fun W pn xe tk _ => ?_) (fun a oe cls d pn _ _ => pss_cons (ps_ret (pe_tup (pa_cons pe_str pa_nil))) pss_nil)) (pss_cons (ps_ret (pv 1)) pss_nil), ?_⟩
  · refine ⟨fun pins s' σ H' D I h' => ?_⟩
    obtain ⟨Ech, hW, h1⟩ := h'
    exact (pss_cons (ps_set (i := 1) nd rfl (Or.inl rfl) (act W pn xe Ech _ _ tk hW)) pss_nil).run pins s' σ H' D I h1
  · have e : (fun v H' => ∃ x, (some (some v) : Option (Option V)) = some (some x) ∧ Q x H') = Q := by
      funext v H'
      exact propext ⟨fun ⟨x, e, q⟩ => by cases e; exact q, fun q => ⟨v, rfl, q⟩⟩
    refine ⟨fun cls _ H' => ∃ b, PySem.W.exmOne X.K cls (.ref (He.ga X.K "NoChoice")) = some b ∧ (b = true → ∀ p, H' p = none → Q (.ref p) (upd H' p (.tup [.str "NoChoice"]))) ∧ (b = false → False), fun cls d σ' H' ⟨b, e1, e2, e3⟩ => ⟨b, e1, fun hb a _ => ⟨by show 1 ≤ sizeLine; decide, e2 hb⟩, fun hb => e3 hb⟩, rfl, hc, ?_⟩
    show tl _ H (fun v H' => ∃ x, (some (some v) : Option (Option V)) = some (some x) ∧ Q x H')
    rw [e]
    exact h
end K29
set_option Elab.async false
set_option linter.all false
set_option maxRecDepth 100000
set_option maxHeartbeats 4000000
/-! The law's defs: a small web. -/
namespace G
open PySem PySem.Spec PyProof.Rows L2 PySem.W
theorem y_tupLE {K : PySem.W.Frag} {B : Bs} {g : Slots} {L : Ls} {te : TE} {α : Type} [DecidableEq α] [Datum α] {A : List α → Prop} (h : Y B g L te (Ex K A)) : Y B g L (tCB (rTupOf K) (tCons te tNil)) (Ex K fun t : Tup α => A t.items) := fun s H a Q k => h s H a _ fun v H1 e1 j1 p1 => by
  obtain ⟨xs, hx, p1⟩ := p1
  obtain ⟨b, vs, rfl, hs, hv⟩ := lst_rp p1
  have a1 := a.hd.step e1 j1
  exact ⟨b, vs, rfl, .inl ⟨Same.seq vw_same hs, fun p hp => k _ _ (e1.trans (Le.laid hp)) (a1.ok.laid hp).j ⟨Tup.mk xs, hx, rp_tup (a1.at_new hp) (hv.same (a1.grow hp))⟩⟩⟩
end G
namespace K29
open PySem PySem.Spec PyProof.Rows L2 G PySem.W TL
section
variable {P : Program} {w : World} {K : PySem.W.Frag} {mg : Str → Option Value} {base : Heap}
/-- the def's code object and its table -/
abbrev tP : He.Defn := ("_law_small_right", none)
abbrev tabA (K : PySem.W.Frag) : Addr := (He.cT K tP).2
abbrev qS : Str := "_law_small_right" ++ ".<locals>." ++ "<lambda>"
theorem yu_try {B : Bs} {g : Slots} {L : Ls} {ta : TA} {T : Addr} {j : Nat} {n : Net} {ws : List Int} {l : Ln} (M : Md K mg) (hl : L[j]? = some (T, LoTab qS)) (h : YA B g L ta [NT K n, Is K (Tup.mk ws), Is K l.1, Is K l.2]) (h1 : NetOk n) (h2 : WsOk n ws) (h3 : l ∈ n.pairs) :
    YU B g L (tLamP T qS (TTry K (He.ga K "NoChoice") "NoChoice") fun E => tCall (spworth K) [] E ta) (AnS K (if numWith nofix n = 0 then .tx "NoChoice" else .oi (worthOf n ws l))) := fun s H a Q k => by
  have hm : (T, LoTab qS) ∈ L := List.mem_of_getElem? hl
  obtain ⟨o, e1, ps, rfl, tr, cd⟩ := a.hd.lo _ hm
  have inL : T ∈ L.map (·.1) ++ B.A := List.mem_append_left _ (List.mem_map.mpr ⟨_, hm, rfl⟩)
  refine ⟨⟨ps, e1, tr, fun pos cv hc => let ⟨c, x, y⟩ := cd pos cv hc; ⟨c, x, vw_same _ _ y⟩⟩, fun H1 ext gr => ?_⟩
  have a1 : At B g L s H1 := by
    obtain ⟨ps0, ps1, g1, g2, g3, g4⟩ := gr
    have g1 : some (HO.tbl ps) = some (HO.tbl ps0) := e1.symm.trans g1
    cases g1
    refine a.tab hl ext g2 ⟨ps1, rfl, g3, fun pos cv hc => ?_⟩
    rcases g4 pos cv hc with old | ⟨cc, rfl, n, isc⟩
    · obtain ⟨c, x, y⟩ := cd pos cv old
      obtain ⟨y1, y2⟩ := cut_of y
      refine ⟨c, x, ?_⟩
      show cut _ H1 c = _
      rw [cut_out y1]
      exact ext c _ (fun z => y1 (by rw [z]; exact inL)) y2
    · refine ⟨cc, rfl, ?_⟩
      show cut _ H1 cc = _
      rw [cut_out fun z => a.hd.full.av cc z n]
      exact isc
  refine h s H1 a1 _ fun vs H2 e j p => ?_
  have a2 := a1.step e j
  refine ⟨B.W, L.map (·.1) ++ B.A, (n, ws, l.1, l.2), a2.hd.full, ⟨h1, h2, h3⟩, by rw [List.append_nil]; exact p, fun hb v H' e2 o2 r => ?_, fun hb H' e2 o2 => ⟨true, M.exmNoChoice, fun _ p hp => ?_, fun z => by cases z⟩⟩
  · have a3 := a2.step e2 o2.j
    refine k v H' a3 ?_
    rw [if_neg (of_decide_eq_false hb)]
    exact r
  · have a3 := (a2.step e2 o2.j)
    refine k (.ref p) _ (a3.laid hp) ?_
    rw [if_pos (of_decide_eq_true hb)]
    exact rp_tup (a3.hd.at_new hp) (.one (rp_str _))
/-- the promise: the table may grow -/
def spSmall (K : PySem.W.Frag) : Sp := fun vs H Q _ => ∃ (wl : Addr) (A : List Addr) (o : HO), vs = [.ref wl] ∧ Ok (Ww wl) A H ∧ tabA K ∉ A ∧ H (tabA K) = some o ∧ (LoTab qS).p o (cut (tabA K :: A) H) ∧
  ∀ H' o', (∀ b u, b ≠ wl → b ≠ tabA K → H b = some u → H' b = some u) → Ok (Ww wl) A H' → H' (tabA K) = some o' → (LoTab qS).p o' (cut (tabA K :: A) H') → Q (.bl true) H'
theorem cal_mkT {x qual : Str} {params : Arguments} {body : List Stmt} {scope : Scope} {p : He.Defn} {fd : FuncData} {N ps : List Str} {k : Nat} {x' : Str} {sp : Sp} (F : FunD K x qual params body scope [] [] (He.fAd K p) fd) (hm : mg x' = some (.ref (He.fAd K p))) (S : FnScope N ps scope)
    (hb : ∀ (kV doc pm : Value) (an : Option Addr) (cdv ct : Value) (us : List Value), us.length = ps.length → bindArgs (PySem.W.fnOf x qual params body scope .none kV doc pm an cdv ct) ⟨us, []⟩ = pure (ps.zip us))
    (hl : ∀ vs H Q E, sp vs H Q E → vs.length = ps.length)
    (hbody : ∀ (A : Around) (outer : List Env) (s : Shared) (H : Hp) (vs : List V) (Q : VK) (E : XK), Room k (A.deeper (envOfC qual scope s.heap.objs.size (He.fAd K p) (.ref (He.codeOf K p)))) → sp vs H Q E →
      ∃ t, PSs (cxOf CX0 P w K mg base N qual scope (He.fAd K p) (.ref (He.codeOf K p)) A outer s H E).nox body t ∧ t { nx := fun _ H' => Q .non H', rt := Q } (start N vs) H) : Cal P w K mg base (k + 1) x' ps sp := by
  have bd := F.bindsN hb
  have kp := F.kp
  obtain ⟨oc, od, dV, kV, doc, pm, an, cdv, ct, osl, rfl, lk, hcd, _, _⟩ := F.ex
  obtain ⟨c, rfl⟩ := He.codeIn_ref hcd
  have ec : He.codeOf K p = c := He.codeOf_eq lk rfl
  subst ec
  refine ⟨_, _, hm, kp, bd, fn_of lk hcd S hl fun A outer s H vs Q E hr hsp => ?_⟩
  obtain ⟨t, h1, h2⟩ := hbody A outer s H vs Q E hr hsp
  exact ⟨t, h1.nox, h2⟩
def SmallR (xs : List (Str × Tup Str)) : Prop := ∃ rows : List NRow, xs = rows.map dRow ∧ RowsOk rows ∧ 2 ≤ rows.length ∧ rows.length ≤ 9
def NLsmall_right : List Str := ["_law_well_here", "_law_rows", "_law_lines_here", "_law_chosen", "_law_loads_here", "_law_net", "_law_table_here", "_law_totals", "_law_at", "_law_due_here", "_law_row_here"]
theorem scLsmall_right : FnScope NLsmall_right ["_law_well_here"] (defScope s_Lsmall_right) := ⟨rfl, rfl, rfl, by decide +kernel, rfl, by decide +kernel, by decide +kernel⟩
theorem ok_Lsmall (M : Md K mg) (TB : LamX.TabB base mg (He.codeOf K tP) (tabA K)) (cLdraw : Cal P w K mg base 1 "_law_draw" ["_law_well_here", "_law_many"] (spdraw K)) (cLweb : Cal P w K mg base 3 "_law_web" ["_law_well_here", "_law_many", "_law_most"] (spLweb K)) (cLlines : Cal P w K mg base 1 "_law_lines" ["_law_rows"] (spLlines K))
    (cLchoices : Cal P w K mg base 2 "_law_choices" ["_law_rows"] (spLchoices K)) (cLloads : Cal P w K mg base 2 "_law_loads" ["_law_well_here", "_law_many"] (spLloads K)) (cLtext : Cal P w K mg base 1 "_law_text" ["_law_rows"] (spLtext K)) (cWeb : C8.Mak P w K mg base 5 "Web" (He.ga K "Web") (spInit K) [])
    (cLtable : Cal P w K mg base 2 "_law_table" ["_law_rows", "_law_chosen"] (spLtable K)) (cLtotal : Cal P w K mg base 1 "_law_total" ["_law_loads_here", "_law_row_here"] (spLtotal K)) (cworth : CalX P w K mg base 7 "worth" ["web", "weights", "source", "copy"] (spworth K)) (cLdue : Cal P w K mg base 1 "_law_due" ["_law_totals", "_law_flags"] (spLdue K))
    (cLsame : Cal P w K mg base 2 "_law_same" ["_law_gave", "_law_due_here"] (spLsame K)) :
    Cal P w K mg base 10 "_law_small_right" ["_law_well_here"] (spSmall K) := by
  obtain ⟨fd, F⟩ := M.d_Lsmall_right
  obtain ⟨fdT, FT⟩ := M.d_Ltry
  have bdT := FT.bindsN (ps := ["_law_act"]) (fun _ _ _ _ _ _ us hl => match us, hl with | [_], _ => rfl)
  have kpT := FT.kp
  obtain ⟨ocT, odT, dVT, kVT, docT, pmT, anT, cdvT, ctT, oslT, rfl, lkT, hcdT, _, _⟩ := FT.ex
  refine cal_mkT F M.o_law_small_right scLsmall_right (fun _ _ _ _ _ _ us hl => match us, hl with | [_], _ => rfl) (fun vs H Q E h => by obtain ⟨wl, A, o, rfl, _⟩ := h; rfl) fun A outer s H vs Q E hr9 hsp => ?_
  obtain ⟨wl, A', o, rfl, ok, nT, hT, lT, hQ⟩ := hsp
  have hu := hr9.units
  have hr1 := hr9.mono (j := 1) (by decide)
  have hr2 := hr9.mono (j := 2) (by decide)
  have hr3 := hr9.mono (j := 3) (by decide)
  have hr8 := hr9.mono (j := 8) (by decide)
  have nd := scLsmall_right.nd
  refine ⟨_,     (pss_cons (ps_set (i := 1) nd rfl (Or.inl rfl) (pe_cal cLweb hr3 (by rfl) (pa_cons (pv 0) (pa_cons (pe_op op_add pe_int (pe_cal cLdraw hr1 (by rfl) (pa_cons (pv 0) (pa_cons pe_int pa_nil)))) (pa_cons pe_int pa_nil)))))
    (pss_cons (ps_asg (pe_tup (pa_cons (pe_cal cLlines hr1 (by rfl) (pa_cons (pv 1) pa_nil)) (pa_cons (pe_cal cLchoices hr2 (by rfl) (pa_cons (pv 1) pa_nil)) pa_nil))) (k_pg K (n := 2) (pgs_cons (pg_name (i := 2) nd rfl (Or.inr rfl)) (pgs_cons (pg_name (i := 3) nd rfl (Or.inl rfl)) pgs_nil))))
    (pss_cons (ps_asg (pe_tup (pa_cons (pe_callTy (k_tupOf K) (by rfl) M.mtuple (by decide +kernel) (pa_cons (pe_cal cLloads hr2 (by rfl) (pa_cons (pv 0) (pa_cons (pe_callB (k_len K) (by rfl) M.mlen PySem.boot_len (pa_cons (pv 2) pa_nil)) pa_nil))) pa_nil)) (pa_cons (C8.pe_mk cWeb hr8 (by decide) (by rfl) (pa_cons (pe_cal cLtext hr1 (by rfl) (pa_cons (pv 1) pa_nil)) pa_nil)) (pa_cons (pe_cal cLtable hr2 (by rfl) (pa_cons (pv 1) (pa_cons (pv 3) pa_nil))) pa_nil)))) (k_pg K (n := 3) (pgs_cons (pg_name (i := 4) nd rfl (Or.inr rfl)) (pgs_cons (pg_name (i := 5) nd rfl (Or.inr rfl)) (pgs_cons (pg_name (i := 6) nd rfl (Or.inl rfl)) pgs_nil)))))
    (pss_cons (ps_setLc (i := 7) rfl nd rfl rfl (sw_true rfl rfl rfl (by decide +kernel)) (k_list K (pv 6)) (blkOk_by (N := NLsmall_right) (sc := defScope s_Lsmall_right) (own := [("_law_row_here", 10)]) (by decide +kernel)) (fun _ _ _ _ _ => (pg_name (i := 10) nd rfl (Or.inl rfl))) (fun _ _ _ _ _ => pts_nil) (fun _ _ _ _ _ => (pe_cal cLtotal hr1 (by rfl) (pa_cons (pv 4) (pa_cons (pv 10) pa_nil)))))
    (pss_cons (ps_for PassesOwn.never rfl (pi_range1 (by rfl) M.mrange (pa_cons (pe_callB (k_len K) (by rfl) M.mlen PySem.boot_len (pa_cons (pv 2) pa_nil)) pa_nil)) (pg_name (i := 8) nd rfl (Or.inr rfl))
      (pss_cons (ps_set (i := 9) nd rfl (Or.inl rfl) (pe_ifExp (pt_cmpR (k_ne K (List (Tup Str)) hu) (pv 3) (pe_lst pa_nil) (nomark _)) (pe_cal cLdue hr1 (by rfl) (pa_cons (pv 7) (pa_cons (pe_lc rfl nd (k_list K (pv 6)) (blkOk_by (N := NLsmall_right) (sc := defScope s_Lsmall_right) (own := [("_law_row_here", 10)]) (by decide +kernel)) (fun _ _ _ _ _ => (pg_name (i := 10) nd rfl (Or.inl rfl))) (fun _ _ _ _ _ => pts_nil) (fun _ _ _ _ _ => (pe_ix (k_ixL K) (pv 10) (pv 8) (fun _ _ => rfl)))) pa_nil))) (pe_tup (pa_cons pe_str pa_nil))))
      (pss_cons (ps_if (pt_not (pt_val (pe_cal cLsame hr2 (by rfl) (pa_cons (pe_lamP (x := "_law_try") (a := "_law_act") (by rfl) M.o_law_try kpT lkT hcdT bdT scLtry rfl (Or.inl rfl) (try_gives M) TB rfl hr9 (LamX.lamS_by (by show LamX.lamSB (defScope s_Lsmall_right) _ = true; decide +kernel)) rfl (fun _ _ _ _ _ => rfl) (fun A outer s H E f cc hr7 => (pe_calX cworth (passes_call (takes_of rfl rfl rfl rfl) fun _ _ _ _ h => h) hr7 (by rfl) (pa_cons (pv 5) (pa_cons (pv 4) (pa_cons (pe_ix (k_ixU K) (pe_ix (k_ixL K) (pv 2) (pv 8) (fun _ _ => rfl)) pe_int (fun _ _ => rfl)) (pa_cons (pe_ix (k_ixU K) (pe_ix (k_ixL K) (pv 2) (pv 8) (fun _ _ => rfl)) pe_int (fun _ _ => rfl)) pa_nil))))))) (pa_cons (pv 9) pa_nil)))))
        (pss_cons (ps_ret pe_bl)
        pss_nil)
        pss_nil)
      pss_nil)))
    (pss_cons (ps_ret pe_bl)
    pss_nil)))))), ?_⟩
  let B : Bs := ⟨Ww wl, A', fun b => if b = tabA K then none else H b, []⟩
  have atB : At B [some (Vl (.ref wl)), none, none, none, none, none, none, none, none, none, none] [(tabA K, LoTab qS)] (start NLsmall_right [V.ref wl]) H := by
    refine ⟨⟨ok, fun b u _ h => ?_, fun q hq => ?_, by simp, fun q hq => ?_, fun q hq => absurd hq List.not_mem_nil⟩, ⟨rfl, fun i t h => ?_⟩⟩
    · have h : (if b = tabA K then none else H b) = some u := h
      split at h
      · cases h
      · exact h
    · rw [List.mem_singleton.mp hq]
      exact ⟨if_pos rfl, nT⟩
    · rw [List.mem_singleton.mp hq]
      exact ⟨o, hT, lT⟩
    · match i with
      | 0 =>
        cases h
        exact ⟨.ref wl, rfl, rfl⟩
      | 1 => cases h
      | 2 => cases h
      | 3 => cases h
      | 4 => cases h
      | 5 => cases h
      | 6 => cases h
      | 7 => cases h
      | 8 => cases h
      | 9 => cases h
      | 10 => cases h
      | n + 11 => cases h
  have fin : ∀ (X : List (V × Sl)) (g : Slots) (v : V) (s : L2.St) (H' : Hp), At (B.x X) g [(tabA K, LoTab qS)] s H' → v = .bl true → Q v H' := fun X g v s H' a hv => by
    subst hv
    obtain ⟨o', e1, e2⟩ := a.hd.lo _ List.mem_cons_self
    refine hQ H' o' (fun b u h1 h2 h3 => a.hd.le b u (fun z => h1 (List.mem_singleton.mp z)) ?_) a.hd.ok e1 e2
    show (if b = tabA K then none else H b) = some u
    rw [if_neg h2]
    exact h3
  refine (?_ : YS B [some (Vl (.ref wl)), none, none, none, none, none, none, none, none, none, none] [(tabA K, LoTab qS)] _ _) _ _ atB
  refine ys_setE (A := SmallR) (?_ : Y B _ _ _ (Ex K SmallR)) ?_
  · refine y_callG (ts := [Vl (.ref wl), Ex K fun m : Int => 2 ≤ m ∧ m ≤ 9, Is K (5 : Int)]) (ya_cons (y_var rfl) (ya_cons (Y.exm (y_opIE (f := fun i j => i + j) (Y.loose (y_int.ex (A := fun z => z = 2) rfl)) (Y.loose (y_draw (m := 8) rfl (ya_cons (y_var rfl) (ya_cons y_int ya_nil)) (by decide) (by decide)))) fun z hz => ?_) (ya_cons y_int ya_nil))) fun vs H1 p => ?_
    · obtain ⟨i, j, e1, e2, e3⟩ := hz
      omega
    · cases p with
      | cons p0 p =>
        cases p with
        | cons p1 p =>
          obtain ⟨m, hm, r⟩ := p1
          refine ⟨(wl, m, 5), ⟨rfl, hm.1, by show m ≤ 24; omega⟩, .cons p0 (.cons r p), fun v H' ⟨x, ⟨rows, e, ro, l2, ln⟩, q⟩ => ⟨x, ⟨rows, e, ro, l2, ?_⟩, q⟩⟩
          have ln : rows.length ≤ m.toNat := ln
          omega
  rintro xs ⟨rows, e, ro, l2, l9⟩
  subst e
  have hne : rows ≠ [] := fun e => by rw [e] at l2; simp at l2
  have l80 : (linesOf rows).length ≤ 80 := by rw [lines_len]; exact ro.few
  have net := net_ok ro
  have cl : (choicesOf rows).length ≤ 256 := Nat.le_trans (List.length_filter_le _ _) (tuples_len ro l9)
  have ce : ∀ c, c ∈ choicesOf rows → c.length = rows.length - 1 := fun c hc => tuples_each (List.mem_filter.mp hc).1
  refine ys_tup2 (O1 := oDat (Is K (linesOf rows))) (O2 := oDat (Is K ((choicesOf rows).map Tup.mk))) (Y.o (y_call1 (x := rows) (ya_cons (y_var rfl) ya_nil) ro)) (fun u L1 o => ?_) ?_
  · obtain ⟨rfl, rfl⟩ := o
    exact Y.o (y_call1 (x := rows) (ya_cons (y_var rfl) ya_nil) ⟨ro, l9⟩)
  rintro _ _ _ _ ⟨rfl, rfl⟩ ⟨rfl, rfl⟩
  refine ys_tup3 (O1 := oEx K fun t : Tup Int => LdOk (linesOf rows).length t.items) (O2 := oDat (NT K (netOf rows))) (O3 := oDat (Is K (tableOf rows (choicesOf rows)))) (Y.oe (y_tupLE (A := fun ws => LdOk (linesOf rows).length ws) (Y.exm (y_call2 (x := wl) (y := ((linesOf rows).length : Int)) (ya_cons (y_var rfl) (ya_cons (y_lenL (Y.loose (y_var rfl))) ya_nil)) ⟨rfl, by omega, by omega⟩) fun ws h => by rwa [Int.toNat_natCast] at h))) (fun u L1 o => ?_) (fun t L1 u L2 o1 o2 => ?_) ?_
  · obtain ⟨ws, _, rfl, rfl⟩ := o
    exact Y.o (y_make (ya_cons (y_call1 (x := rows) (ya_cons (y_var rfl) ya_nil) ⟨ro.len, ro.join⟩) ya_nil) ro (ro.txt hne))
  · obtain ⟨ws, _, rfl, rfl⟩ := o1
    obtain ⟨rfl, rfl⟩ := o2
    exact Y.o (y_call2 (x := rows) (y := choicesOf rows) (ya_cons (y_var rfl) (ya_cons (y_var rfl) ya_nil)) ⟨ro, by show (choicesOf rows).length ≤ 1000; omega, ce⟩)
  rintro _ _ _ _ _ _ ⟨⟨ws⟩, hws, rfl, rfl⟩ ⟨rfl, rfl⟩ ⟨rfl, rfl⟩
  have hws : LdOk (linesOf rows).length ws := hws
  have wsl : ws.length = (linesOf rows).length := hws.1
  have wsok : WsOk (netOf rows) ws := ⟨hws.1, hws.2⟩
  have tl : (tableOf rows (choicesOf rows)).length ≤ 256 := by unfold tableOf; rw [List.length_map]; exact cl
  have te : ∀ row, row ∈ tableOf rows (choicesOf rows) → row.length = (linesOf rows).length := fun row hr => by
    unfold tableOf at hr
    obtain ⟨c, _, rfl⟩ := List.mem_map.mp hr
    rw [rowC_eq, List.length_map]
  refine ys_setD (t := Is K ((tableOf rows (choicesOf rows)).map (totalOf ws))) (YF.dat (yf_lc1 (vs := [10]) (xs := tableOf rows (choicesOf rows)) (us := fun y => [(10, Is K y)]) (f := totalOf ws) (yi_list (y_var rfl)).loose (by rw [sizeLine_eq]; omega) (fun D y _ => yg_name) (fun y _ i hi => by simpa using hi) (fun D y _ => y_call2 (x := ws) (y := y) (ya_cons (y_var rfl) (ya_cons (y_var rfl) ya_nil)) (by show ws.length ≤ 1000; omega)))) ?_
  refine ys_forB K (ι := Unit) (xs := rngI 0 ((linesOf rows).length : Int).toNat) (us := fun _ x => [(8, Is K x)]) (fun _ _ => True) (fun _ => [some (Vl (.ref wl)), none, some (Is K (linesOf rows)), some (Is K ((choicesOf rows).map Tup.mk)), some (Is K (Tup.mk ws)), some (NT K (netOf rows)), some (Is K (tableOf rows (choicesOf rows))), some (Is K ((tableOf rows (choicesOf rows)).map (totalOf ws))), none, none, none]) (fun _ => [(tabA K, LoTab qS)]) ?_ ?_ ?_ ?_ ?_
  · exact yi_range1 (yal_cons (Y.loose (y_lenL (Y.loose (y_var rfl)))) yal_nil) (by omega) (by omega)
  · exact ⟨(), trivial, .keep (.drop (.keep (.keep (.keep (.keep (.keep (.keep (.keep (.keep (.keep .nil)))))))))), List.Sublist.refl _⟩
  · exact fun X d x _ => yg_name
  · rintro X k - x hx -
    obtain ⟨k1, k2⟩ := rngI_at hx
    obtain rfl : x = ((k : Nat) : Int) := by omega
    have hi : k < (linesOf rows).length := by omega
    obtain ⟨l, hl⟩ : ∃ l, (linesOf rows)[k]? = some l := ⟨_, List.getElem?_eq_getElem hi⟩
    have atl : atI (linesOf rows) ((k : Nat) : Int) = some l := atI_nat (xs := linesOf rows) (j := k) hl
    let ans : Ans := if numWith nofix (netOf rows) = 0 then .tx "NoChoice" else .oi (worthOf (netOf rows) ws l)
    refine ys_setD (t := AnS K ans) (y_if (c := decide ((choicesOf rows).map Tup.mk ≠ [])) (yt_test (K := K) (Y.loose (y_neT (Y.loose (y_var rfl)) (Y.loose (YF.dat (yf_lst yi_nil (Nat.zero_le _))))))) (fun h => ?_) fun h => ?_) ?_
    · have h := of_decide_eq_true h
      have nz : numWith nofix (netOf rows) ≠ 0 := fun z => h (by rw [(small_none ro).mpr z]; rfl)
      have e : ans = .oi (dueOf ((tableOf rows (choicesOf rows)).map (totalOf ws)) ((tableOf rows (choicesOf rows)).map fun row => row.getD k false)) := by
        show (if _ then _ else _) = _
        rw [if_neg nz, small_worth ro wsl hl]
      rw [e]
      show Y _ _ _ _ (OI K (dueOf ((tableOf rows (choicesOf rows)).map (totalOf ws)) ((tableOf rows (choicesOf rows)).map fun row => row.getD k false)))
      have q := fun (ta : TA) (h : YA (B.x X) (setg [some (Vl (.ref wl)), none, some (Is K (linesOf rows)), some (Is K ((choicesOf rows).map Tup.mk)), some (Is K (Tup.mk ws)), some (NT K (netOf rows)), some (Is K (tableOf rows (choicesOf rows))), some (Is K ((tableOf rows (choicesOf rows)).map (totalOf ws))), none, none, none] [(8, Is K ((k : Nat) : Int))]) [(tabA K, LoTab qS)] ta [Is K ((tableOf rows (choicesOf rows)).map (totalOf ws)), Is K ((tableOf rows (choicesOf rows)).map fun row => row.getD k false)]) => y_call2 (E := E0) (P := fun _ (ts : List Int) (fs : List Bool) => ts.length ≤ 16000000) (s1 := fun ts : List Int => Is K ts) (s2 := fun fs : List Bool => Is K fs) (post := fun ts fs => OI K (dueOf ts fs)) (x := (tableOf rows (choicesOf rows)).map (totalOf ws)) (y := (tableOf rows (choicesOf rows)).map fun row => row.getD k false) h (by show ((tableOf rows (choicesOf rows)).map _).length ≤ 16000000; rw [List.length_map]; omega)
      refine q _ (ya_cons (y_var rfl) (ya_cons (YF.dat ?_) ya_nil))
      refine yf_lc1 (vs := [10]) (xs := tableOf rows (choicesOf rows)) (us := fun y => [(10, Is K y)]) (f := fun row : List Bool => row.getD k false) (yi_list (y_var rfl)).loose (by rw [sizeLine_eq]; omega) (fun D y _ => yg_name) (fun y _ i hi => by simpa using hi) (fun D y hy => ?_)
      have := te y hy
      refine y_ixL (Y.q (y_var rfl)) (Y.loose (y_var rfl)) (atI_nat ?_)
      rw [List.getD_eq_getElem?_getD, List.getElem?_eq_getElem (by omega)]
      rfl
    · have h : ¬ (choicesOf rows).map Tup.mk ≠ [] := of_decide_eq_false h
      have z : numWith nofix (netOf rows) = 0 := (small_none ro).mp (List.map_eq_nil_iff.mp (Decidable.byContradiction h))
      have e : ans = .tx "NoChoice" := if_pos z
      rw [e]
      exact y_tupU (yi_cons y_str yi_nil) (by show 1 ≤ sizeLine; decide)
    refine ys_ifU (K := K) (yu_call2 (x := ans) (y := ans) (yu_try (j := 0) (l := l) M rfl (ya_cons (y_var rfl) (ya_cons (y_var rfl) (ya_cons (y_ix0 (y_ixL (Y.q (y_var rfl)) (Y.loose (y_var rfl)) atl)) (ya_cons (y_ix1 (y_ixL (Y.q (y_var rfl)) (Y.loose (y_var rfl)) atl)) ya_nil)))) net wsok (List.mem_of_getElem? hl)) (y_var rfl) rfl) ?_
    exact ys_next fun s H a => ⟨(), trivial, a.weak (.keep (.keep (.keep (.keep (.keep (.keep (.keep (.keep (.drop (.drop (.keep .nil)))))))))))⟩
  · rintro - -
    exact ys_retA (t := Is K true) y_bl fun v s H' a p => fin [] _ v s H' a (bl_rp p)
end
end K29
set_option Elab.async false
set_option linter.all false
set_option maxRecDepth 100000
set_option maxHeartbeats 4000000
/-! The law. -/
namespace K29
open PySem PySem.Spec PyProof.Rows L2 G PySem.W TL
section
variable {P : Program} {w : World} {K : PySem.W.Frag} {mg : Str → Option Value} {base : Heap}
/-- no world at all -/
theorem great_of {B : Bs} {g : Slots} {L : Ls} {ta : TA} {E E' : XK} {i : List Int × Int} (h : YA B g L ta [Is K i.1, Is K i.2]) (hp : i.1.length ≤ 63 ∧ 0 ≤ i.2 ∧ i.2 ≤ 3) : Y B g L (tCall (spLgreat K) [] E (tCons (tCall (spLwell K) [] E' ta) tNil)) (Is K true) := fun s H a Q k => h s H a _ fun vs H1 e j p => by
  have a1 := a.hd.step e j
  refine ⟨B.W, L.map (·.1) ++ B.A, i, a1.full, hp, by rw [List.append_nil]; exact p, fun pp H2 hn le ok2 j2 => ?_⟩
  refine ⟨Ww pp, pp :: (L.map (·.1) ++ B.A), pp, ok2, rfl, .cons rfl .nil, fun v H3 le3 ok3 r => ?_⟩
  have ne : ∀ b o, H1 b = some o → b ≠ pp := fun b o h z => by rw [z, hn] at h; cases h
  have e3 : Le B.W.M H1 H3 := fun b o hb h => le3 b o (fun z => ne b o h (List.mem_singleton.mp z)) (le b o hb h)
  have m3 : ∀ b, b ∈ B.W.M → H3 b = H2 b := fun b hb => by
    cases q : H1 b with
    | none => exact absurd q (B.W.jm j b hb)
    | some o1 =>
      cases q2 : H2 b with
      | none => exact absurd q2 (B.W.jm j2 b hb)
      | some o2 => exact le3 b o2 (fun z => ne b o1 q (List.mem_singleton.mp z)) q2
  exact k v H3 (e.trans e3) (B.W.jd m3 j2) (by rw [show v = V.bl true from bl_rp r]; exact rp_bl true)
theorem small_of {B : Bs} {g : Slots} {ta : TA} {E E' : XK} {i : List Int × Int} (hW : B.W = W0) (h : YA B g [(tabA K, LoTab qS)] ta [Is K i.1, Is K i.2]) (hp : i.1.length ≤ 63 ∧ 0 ≤ i.2 ∧ i.2 ≤ 3) : YU B g [(tabA K, LoTab qS)] (tCall (spSmall K) [] E (tCons (tCall (spLwell K) [] E' ta) tNil)) (Is K true) := fun s H a Q k => h s H a _ fun vs H1 e j p => by
  have a1 := a.step e j
  refine ⟨B.W, [tabA K] ++ B.A, i, a1.hd.full, hp, by rw [List.append_nil]; exact p, fun pp H2 hn le ok2 j2 => ?_⟩
  obtain ⟨o, e1, e2⟩ := a1.hd.lo _ List.mem_cons_self
  have noM : ∀ b, b ∉ B.W.M := fun b => by rw [hW]; exact List.not_mem_nil
  have ne : ∀ b u, H1 b = some u → b ≠ pp := fun b u h z => by rw [z, hn] at h; cases h
  have nA := (a1.hd.new _ List.mem_cons_self).2
  have up : Same (cut ([tabA K] ++ B.A) H1) (cut (tabA K :: pp :: B.A) H2) := fun b u q => by
    obtain ⟨q1, q2⟩ := cut_of q
    rw [cut_out fun z => ?_]
    · exact le b u (noM b) q2
    · rcases List.mem_cons.mp z with z | z
      · exact q1 (by rw [z]; exact List.mem_append_left _ (List.mem_singleton.mpr rfl))
      · rcases List.mem_cons.mp z with z | z
        · exact ne b u q2 z
        · exact q1 (List.mem_append_right _ z)
  refine ⟨pp, pp :: B.A, o, rfl, ok2.mono (fun b hb => by rw [List.mem_singleton.mp hb]; exact List.mem_cons_self) (fun b hb => ?_), fun z => ?_, le _ _ (noM _) e1, (LoTab qS).mono up e2, fun H3 o' keep ok3 e3 l3 => ?_⟩
  · rcases List.mem_cons.mp hb with z | z
    · rw [z]; exact List.mem_cons_self
    · exact List.mem_cons_of_mem _ (List.mem_append_right _ z)
  · rcases List.mem_cons.mp z with z | z
    · exact ne _ _ e1 z
    · exact nA z
  · refine k _ H3 (a1.tab (j := 0) rfl (fun b u hb h => keep b u (ne b u h) hb (le b u (noM b) h)) e3 ((LoTab qS).mono (cut_sub fun b hb => ?_) l3)) (rp_bl true)
    rcases List.mem_append.mp hb with z | z
    · rw [List.mem_singleton.mp z]; exact List.mem_cons_self
    · exact List.mem_cons_of_mem _ (List.mem_cons_of_mem _ z)
def spLaw (K : PySem.W.Frag) : Sp := fun vs H Q _ => ∃ (a : Addr) (ns : List Int), vs = [.ref a] ∧ ns.length ≤ 63 ∧ H (tabA K) = some (.tbl #[]) ∧ SqL K H a (ns.map V.int) ∧ ∀ H', Q (.bl true) H'
def Nlaw : List Str := ["_law_script", "_law_k"]
theorem sclaw : FnScope Nlaw ["_law_script"] (defScope slaw) := ⟨rfl, rfl, rfl, by decide +kernel, rfl, by decide +kernel, by decide +kernel⟩
theorem ok_law {fd : FuncData} (M : Md K mg) (F : FunD K dlaw.name dlaw.qual dlaw.params dlaw.body dlaw.scope (dlaw.dvs K) (dlaw.kws K) (He.fAd K dlaw.at_) fd) (cLwell : Cal P w K mg base 2 "_law_well" ["_law_script", "_law_k"] (spLwell K)) (cLsmall_right : Cal P w K mg base 10 "_law_small_right" ["_law_well_here"] (spSmall K)) (cLgreat_right : Cal P w K mg base 9 "_law_great_right" ["_law_well_here"] (spLgreat K)) :
    FnOk P w K mg base CX0 11 (He.fAd K dlaw.at_) fd ["_law_script"] (spLaw K) := by
  refine F.ok sclaw (fun vs H Q E h => by obtain ⟨a, ns, rfl, _⟩ := h; rfl) fun cdv A outer s H vs Q E hr10 hsp => ?_
  obtain ⟨a, ns, rfl, n63, hT, hS, hQ⟩ := hsp
  have hu := hr10.units
  have hr2 := hr10.mono (j := 2) (by decide)
  have hr9 := hr10.mono (j := 9) (by decide)
  have nd := sclaw.nd
  suffices h : ∃ t, PSs (cxOf CX0 P w K mg base Nlaw dlaw.qual dlaw.scope (He.fAd K dlaw.at_) cdv A outer s H E).nox dlaw.body t ∧ t { nx := fun _ H' => Q .non H', rt := Q } (start Nlaw [V.ref a]) H by
    obtain ⟨t, h1, h2⟩ := h
    exact ⟨t, h1.nox, h2⟩
  refine ⟨_,     (pss_cons (ps_if (pt_not (pt_val (pe_cal cLgreat_right hr9 (by rfl) (pa_cons (pe_cal cLwell hr2 (by rfl) (pa_cons (pv 0) (pa_cons pe_int pa_nil))) pa_nil))))
      (pss_cons (ps_ret pe_bl)
      pss_nil)
      pss_nil)
    (pss_cons (ps_for PassesOwn.never rfl (pi_range1 (by rfl) M.mrange (pa_cons (pe_callB (call_max2 rfl) (by rfl) M.mmax (by decide +kernel) (pa_cons pe_int (pa_cons (pe_callB (call_min2 rfl) (by rfl) M.mmin (by decide +kernel) (pa_cons (pe_callB (k_len K) (by rfl) M.mlen PySem.boot_len (pa_cons (pv 0) pa_nil)) (pa_cons pe_int pa_nil))) pa_nil))) pa_nil)) (pg_name (i := 1) nd rfl (Or.inl rfl))
      (pss_cons (ps_if (PW.pt (pw_or (pt_not (pt_val (pe_cal cLsmall_right hr10 (by rfl) (pa_cons (pe_cal cLwell hr2 (by rfl) (pa_cons (pv 0) (pa_cons (pv 1) pa_nil))) pa_nil)))) (pw_or1 (PW.pt (pw_and (pt_cmpR op_gt (pv 1) pe_int (nomark _)) (pw_and1 (pt_not (pt_val (pe_cal cLgreat_right hr9 (by rfl) (pa_cons (pe_cal cLwell hr2 (by rfl) (pa_cons (pv 0) (pa_cons (pv 1) pa_nil))) pa_nil))))))))))
        (pss_cons (ps_ret pe_bl)
        pss_nil)
        pss_nil)
      pss_nil))
    (pss_cons (ps_ret pe_bl)
    pss_nil))), ?_⟩
  let B : Bs := ⟨W0, [], fun b => if b = tabA K then none else H b, []⟩
  have cS : SqL K (cut [tabA K] H) a (ns.map V.int) := by
    rcases hS with (h | ⟨o, h⟩) | h
    · exact .inl (.inl (by rw [cut_out fun z => by rw [List.mem_singleton.mp z, hT] at h; cases h]; exact h))
    · exact .inl (.inr ⟨o, by rw [cut_out fun z => by rw [List.mem_singleton.mp z, hT] at h; cases h]; exact h⟩)
    · exact .inr h
  have atB : At B [some (Is K ns), none] [(tabA K, LoTab qS)] (start Nlaw [V.ref a]) H := by
    refine ⟨⟨⟨fun b hb => hb, trivial, fun b hb => absurd hb List.not_mem_nil⟩, fun b u _ h => ?_, fun q hq => ?_, by simp, fun q hq => ?_, fun q hq => absurd hq List.not_mem_nil⟩, ⟨rfl, fun i t h => ?_⟩⟩
    · have h : (if b = tabA K then none else H b) = some u := h
      split at h
      · cases h
      · exact h
    · rw [List.mem_singleton.mp hq]
      exact ⟨if_pos rfl, List.not_mem_nil⟩
    · rw [List.mem_singleton.mp hq]
      exact ⟨_, hT, #[], rfl, trivial, fun pos cv h => by simp [codeAmong] at h⟩
    · match i with
      | 0 =>
        cases h
        exact ⟨.ref a, rfl, rp_lst (K := K) (H := cut [tabA K] H) cS (rp_ints ns)⟩
      | 1 => cases h
      | n + 2 => cases h
  refine (?_ : YS B [some (Is K ns), none] [(tabA K, LoTab qS)] _ _) _ _ atB
  refine ys_if (c := !true) (yt_not (yt_val (K := K) (Y.loose (great_of (i := (ns, 0)) (ya_cons (y_var rfl) (ya_cons y_int ya_nil)) ⟨n63, by show (0 : Int) ≤ 0; decide, by show (0 : Int) ≤ 3; decide⟩)))) (fun h => by cases h) fun _ => ys_then ?_
  let m : Int := if (if (3 : Int) < (ns.length : Int) then (3 : Int) else (ns.length : Int)) > 2 then (if (3 : Int) < (ns.length : Int) then (3 : Int) else (ns.length : Int)) else 2
  have hm : m ≤ 3 := by
    show (if (if (3 : Int) < (ns.length : Int) then (3 : Int) else (ns.length : Int)) > 2 then (if (3 : Int) < (ns.length : Int) then (3 : Int) else (ns.length : Int)) else 2) ≤ 3
    split
    · split <;> omega
    · omega
  have hm2 : 0 ≤ m := by
    show 0 ≤ (if (if (3 : Int) < (ns.length : Int) then (3 : Int) else (ns.length : Int)) > 2 then (if (3 : Int) < (ns.length : Int) then (3 : Int) else (ns.length : Int)) else 2)
    split
    · omega
    · omega
  refine ys_forB K (ι := Unit) (xs := rngI 0 m.toNat) (us := fun _ x => [(1, Is K x)]) (fun _ _ => True) (fun _ => [some (Is K ns), none]) (fun _ => [(tabA K, LoTab qS)]) ?_ ?_ ?_ ?_ ?_
  · exact yi_range1 (yal_cons (Y.loose (y_max2 (Y.loose y_int) (Y.loose (y_min2 (Y.loose (y_lenL (Y.loose (y_var rfl)))) (Y.loose y_int))))) yal_nil) (by omega) (by omega)
  · exact ⟨(), trivial, Wk1.refl _, List.Sublist.refl _⟩
  · exact fun X d x _ => yg_name
  · rintro X k - x hx -
    obtain ⟨k1, k2⟩ := rngI_at hx
    have ok : (ns, x).1.length ≤ 63 ∧ 0 ≤ (ns, x).2 ∧ (ns, x).2 ≤ 3 := ⟨n63, by show 0 ≤ x; omega, by show x ≤ 3; omega⟩
    refine ys_ifU2 (K := K) (small_of rfl (i := (ns, x)) (ya_cons (y_var rfl) (ya_cons (y_var rfl) ya_nil)) ok) (YT.to (yt_and (c := decide (0 < x)) (d := !true) (yt_test (K := K) (Y.loose (y_opB (f := fun i j => decide (j < i)) (Y.loose (y_var rfl)) (Y.loose y_int)))) fun _ => yt_not (yt_val (K := K) (Y.loose (great_of (i := (ns, x)) (ya_cons (y_var rfl) (ya_cons (y_var rfl) ya_nil)) ok)))) (Bool.and_false _)) ?_
    exact ys_next fun s H a => ⟨(), trivial, a.weak (.keep (.drop .nil))⟩
  · rintro - -
    exact ys_retA (t := Is K true) y_bl fun v s H' a p => by rw [show v = V.bl true from bl_rp p]; exact hQ H'
end
end K29
set_option Elab.async false
set_option linter.all false
set_option maxRecDepth 100000
set_option maxHeartbeats 4000000
/-! All promises together; the law. Printed by genjoin.py. -/
namespace K29
open PySem PySem.Spec PyProof.Rows L2 G PySem.W TL
theorem all_ok {P : Program} {w : World} {K : PySem.W.Frag} {mg : Str → Option Value} {base : Heap} {fd : FuncData} (M : Md K mg) (TB : LamX.TabB base mg (He.codeOf K tP) (tabA K)) (F : FunD K dlaw.name dlaw.qual dlaw.params dlaw.body dlaw.scope (dlaw.dvs K) (dlaw.kws K) (He.fAd K dlaw.at_) fd) :
    FnOk P w K mg base CX0 11 (He.fAd K dlaw.at_) fd ["_law_script"] (spLaw K) := by
  have care_beside := ok_are_beside (P := P) (w := w) (base := base) M
  have cwalk_from := ok_walk_from (P := P) (w := w) (base := base) M care_beside
  have cis_closed := ok_is_closed (P := P) (w := w) (base := base) M care_beside
  have crow_of := ok_row_of (P := P) (w := w) (base := base) M cwalk_from cis_closed
  have crows_in := ok_rows_in (P := P) (w := w) (base := base) M crow_of
  have cis_let := ok_is_let (P := P) (w := w) (base := base) M
  have cis_end_let := ok_is_end_let (P := P) (w := w) (base := base) M
  have cstates := ok_states (P := P) (w := w) (base := base) M
  have cis_row_let := ok_is_row_let (P := P) (w := w) (base := base) M cis_closed cis_let cis_end_let
  have cnumber_in := ok_number_in (P := P) (w := w) (base := base) M cstates cis_closed cis_let cis_end_let cis_row_let
  have csettings_of := ok_settings_of (P := P) (w := w) (base := base) M cstates cis_closed cis_let cis_end_let cis_row_let
  have cis_integer := ok_is_integer (P := P) (w := w) (base := base) M
  have cis_between := ok_is_between (P := P) (w := w) (base := base) M cis_integer
  have ccheck_web := ok_check_web (P := P) (w := w) (base := base) M
  have ccheck_copy := ok_check_copy (P := P) (w := w) (base := base) M
  have ccheck_line := ok_check_line (P := P) (w := w) (base := base) M ccheck_copy
  have call_rows := ok_all_rows (P := P) (w := w) (base := base) M
  have cnumber_with := ok_number_with (P := P) (w := w) (base := base) M call_rows cnumber_in
  have ccheck_some := ok_check_some (P := P) (w := w) (base := base) M cnumber_with
  have ccheck_weights := ok_check_weights (P := P) (w := w) (base := base) M cis_between
  have ccheck_weighed := ok_check_weighed (P := P) (w := w) (base := base) M ccheck_web ccheck_weights ccheck_some
  have cby_line := ok_by_line (P := P) (w := w) (base := base) M
  have csums_in := ok_sums_in (P := P) (w := w) (base := base) M csettings_of
  have cbest_with := ok_best_with (P := P) (w := w) (base := base) M call_rows cby_line csums_in
  have cbest_sum := ok_best_sum (P := P) (w := w) (base := base) M ccheck_weighed cbest_with
  have cworth := ok_worth (P := P) (w := w) (base := base) M ccheck_web ccheck_weights ccheck_line ccheck_some cnumber_with cbest_with
  have cis_name := ok_is_name (P := P) (w := w) (base := base) M
  have care_sources := ok_are_sources (P := P) (w := w) (base := base) M
  have cweb_in := ok_web_in (P := P) (w := w) (base := base) M cis_name care_sources
  have cWeb := ok_web_init (P := P) (w := w) (base := base) M cweb_in crows_in
  have cLdraw := ok_draw (P := P) (w := w) (base := base) M
  have cLtext := ok_Ltext (P := P) (w := w) (base := base) M
  have cLlines := ok_Llines (P := P) (w := w) (base := base) M
  have cLinner := ok_Linner (P := P) (w := w) (base := base) M
  have cLtuples := ok_Ltuples (P := P) (w := w) (base := base) M
  have cLchoices := ok_Lchoices (P := P) (w := w) (base := base) M cLinner cLtuples
  have cLrow := ok_Lrow (P := P) (w := w) (base := base) M
  have cLtable := ok_Ltable (P := P) (w := w) (base := base) M cLlines cLrow
  have cLtotal := ok_Ltotal (P := P) (w := w) (base := base) M
  have cLdue := ok_Ldue (P := P) (w := w) (base := base) M
  have cLzigzag := ok_Lzigzag (P := P) (w := w) (base := base) M
  have cLkept_ways := ok_Lkept (P := P) (w := w) (base := base) M
  have cLloads := ok_Lloads (P := P) (w := w) (base := base) M cLdraw
  have cLblock := ok_Lblock (P := P) (w := w) (base := base) M
  have cLways_in := ok_Lways (P := P) (w := w) (base := base) M
  have cLnames := ok_Lnames (P := P) (w := w) (base := base) M cLdraw
  have cLfree := ok_Lfree (P := P) (w := w) (base := base) M cLdraw
  have cLlaid := ok_Llaid (P := P) (w := w) (base := base) M cLdraw cLblock cLways_in
  have cLweb := ok_Lweb (P := P) (w := w) (base := base) M cLdraw cLnames cLfree cLlaid
  have cLwell := ok_Lwell (P := P) (w := w) (base := base) M cLdraw
  have c0 := ok_Lsame0 (P := P) (w := w) (base := base) M
  have cLsame := ok_Lsame (P := P) (w := w) (base := base) M c0
  have cLgreat_right := ok_Lgreat (P := P) (w := w) (base := base) M cLdraw cLnames cLlaid cLlines cLloads cLtext cWeb cbest_sum cLzigzag cLkept_ways cworth cLdue cLsame
  have cLsmall_right := ok_Lsmall (P := P) (w := w) (base := base) M TB cLdraw cLweb cLlines cLchoices cLloads cLtext cWeb cLtable cLtotal cworth cLdue cLsame
  exact ok_law M F cLwell cLsmall_right cLgreat_right
theorem law_at (w : World) (mg : Str → Option Value) (fa' : Addr) (h : Heap) (Y : hk.says w h) (G : h.Ns mainGlobals mg) (hmg : mg ("law" : Str) = some (.ref fa')) :
    ∃ K : PySem.W.Frag, K.In h ∧ LamX.LawAtS PySem.Challenge.rw_basetrees_k29_whole_worth_of_lines w K CX0 11 63 "_law_script" mg fa' h := by
  obtain ⟨K, KX, c⟩ := Y
  have M : Md K mg := ⟨c.t.d, c.more, h, KX, G⟩
  obtain ⟨fd, F⟩ := M.dlaw
  have e : some (Value.ref fa') = some (.ref (He.ga K "law")) := hmg.symm.trans M.olaw
  have e : fa' = He.fAd K dlaw.at_ := by cases e; rfl
  subst e
  have b := FunD.bindsA (ps := ["_law_script"]) F fun _ _ _ _ _ _ us hl => match us, hl with | [_], _ => rfl
  have mem : ∀ p, p ∈ [He.cT K tP] → p = (He.codeOf K tP, tabA K) := fun p hp => List.mem_singleton.mp hp
  refine ⟨K, KX, fd, [He.cT K tP], spLaw K, fun p hp => ?_, fun p hp => ?_, fun p hp => ?_, fun s v => b s [v] rfl, fun H a ns hl _ hT hS => ⟨a, ns, rfl, hl, hT _ (List.mem_singleton.mpr rfl), hS, fun _ => rfl⟩, fun base _ _ TB => all_ok M (TB _ (List.mem_singleton.mpr rfl)) F⟩
  · rw [mem p hp]; exact c.empty tP (List.mem_singleton.mpr rfl)
  · rw [mem p hp]; exact c.out tP (List.mem_singleton.mpr rfl)
  · rw [mem p hp]; exact PySem.W.codeHd_of_K KX (c.hd tP (List.mem_singleton.mpr rfl))
end K29
open PySem PySem.W PySem.Calls PyProof.Rows
set_option maxHeartbeats 0 in
theorem PySem.Challenge.cw_basetrees_k29_whole_worth_of_lines_holds : PySem.Challenge.rw_basetrees_k29_whole_worth_of_lines.Holds := by
  w_on; o_law
  refine HandSHeadRun.head_any (r := OpenLaw.row PySem.Challenge.rw_basetrees_k29_whole_worth_of_lines) (q := view (OpenLaw.row PySem.Challenge.rw_basetrees_k29_whole_worth_of_lines).prog [76]) (H := K29.hk) (ob := K29.ob) (M := 12000) (loose := K29.names) (d := HandSHeadRun.topDef (OpenLaw.row PySem.Challenge.rw_basetrees_k29_whole_worth_of_lines).prog 76) (kwd := []) K29.ob_eq
    (by kernel_rfl) (fun s => by kernel_rfl) K29.run (by kernel_rfl) (by kernel_rfl) (by kernel_rfl) (by rfl) (by first | assumption | decide +kernel) (by decide +kernel) ⟨rfl, rfl, rfl, rfl, rfl, by decide +kernel⟩ ?hw ?hc
  case hw => w_witness2
  case hc =>
    refine LamX.walk_ofTsE (l := PySem.Challenge.rw_basetrees_k29_whole_worth_of_lines) (n := 63) (k := 11) (x := "_law_script") (CX := fun _ => L2.CX0) rfl (by decide) (by kernel_rfl) ⟨rfl, by decide, by decide⟩ ?F (fun _ _ _ _ _ z => z)
    intro w mg fa h Y G hmg0
    have hmg : mg ("law" : PySem.Str) = some (.ref fa) := by
      have e : (HandSHeadRun.topDef (OpenLaw.row PySem.Challenge.rw_basetrees_k29_whole_worth_of_lines).prog 76).name = ("law" : PySem.Str) := by kernel_rfl
      rw [← e]
      exact hmg0
    exact K29.law_at w mg fa h Y G hmg
