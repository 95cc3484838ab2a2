import PyProof.Rows.All
import Wide.All
import OpenK.AllK
import Wide.FinOn
import KE.KStateDown
import Lean
import HandS.Base
import HandS.Call
import HandS.Words
import HandS.Head0
import HandS.Head1
import HandS.Head2
import HandS.HeadEnd
import HandS.HeadHook1
import HandS.HeadHook2
import KE.KExcSuper
import KE.RegKSuper
import HandS.Exc
import HandS.Property
import HandS.EndTab
import PyProof.ReprRoads
import KE.KUnpackStar
import KE.DataIsa
import KE.KTupSum
import KE.LtData
import HandS.List
import HandS.Comp
import HandS.Ends
import HandS.WordsList
import HandS.Iter
import HandS.Text
import HandS.TupAny
import HandS.TupMul
import HandS.IsInst
import HandS.Zip
import HandS.Deep
import PyProof.EqAt
import PyProof.EqKinds
import PyProof.TupleCall
import KE.KFromBytes
import HandS.ForExc
import KE.SortData
import KE.DataMinMax
import HandS.SortInts
import HandS.Conv
import HandS.DictComp
import KE.KDictKeyed
import KE.KDictLaw
import HandS.Dict
import HandS.Lambda
import PySem.Challenge.RW_pumphouse_k97_whole_way_of_claims
set_option Elab.async false
set_option linter.all false
set_option maxRecDepth 100000
set_option maxHeartbeats 4000000
set_option maxHeartbeats 4000000
/-! Tp: the statements of the text's top -/
namespace Pm
open PySem PySem.Spec PyProof.Rows L2
def top (i : Nat) : Stmt := PySem.Challenge.pw_pumphouse_k97_whole_way_of_claims.main.body.getD i (.Pass ⟨0, 0, 0, 0⟩)
end Pm
set_option maxHeartbeats 4000000
/-! EB1: what is looked at behind the top, as tests -/
namespace PySem
namespace BadX
open PySem.W PySem.Calls PyProof.Rows PySem.HandSPX
abbrev sIni : Stmt := L2.inClass (Pm.top 3) 0
def isN : Value → Bool
  | .none => true
  | _ => false
def clsB (K : Frag) (C : Addr) : Bool := match K.lookup C with
  | some ⟨.type t, _, .cls cd, sl⟩ => (match cd.mro, sl.toList with
    | .ref C' :: bm, [_, _, _, _, some (.builtin n), _] => decide (t = "type") && (decide (C' = C) && (decide (n = "ValueError.__new__") && (!cd.hasDel && (cd.hasDict && refsVE bm))))
    | _, _ => false)
  | _ => false
/-- its __init__ -/
def iniB (K : Frag) (C fI : Addr) (file : Str) : Bool := match K.lookup fI with
  | some ⟨_, _, .func fd, _⟩ => (isN fd.defaults && isN fd.kwdefaults) && (codeIn K fd.code "BadPaper.__init__" && ((match fd.code with
    | .ref cda => (match K.lookup cda with
      | some ⟨_, _, .fields vs, _⟩ => (match (vs[2]? : Option Value) with
        | some (.str f _) => (file == f)
        | _ => false)
      | _ => false)
    | _ => false) && (match fd.closure with
    | [(y, cc)] => decide (y = "__class__") && (match K.lookup cc with
      | some ⟨_, _, .cell (some (.ref C')), _⟩ => decide (C' = C)
      | _ => false)
    | _ => false)))
  | _ => false
abbrev FnV2 : Type := Option (Str × Str × Arguments × FuncBody × Scope × Addr × List Str × Addr)
def fnAt (K : Frag) (a : Addr) : FnV2 := match K.lookup a with
  | some ⟨_, _, .func fd, _⟩ => some (fd.name, fd.qualname, fd.params, fd.body, fd.scope, fd.globals, fd.closure.map (·.1), fd.builtins)
  | _ => none
/-- all that is asked of BadPaper -/
def badB (K : Frag) (C fI : Addr) (file : Str) : Bool :=
  clsB K C && (iniB K C fI file && (decide (findIn K (.ref C) "__setattr__" = some (some (.builtin "object.__setattr__"))) && (decide (findIn K (.ref C) "__getattribute__" = some (some (.builtin "BaseException.__getattribute__"))) && (decide (findIn K (.ref C) "__getattr__" = some none) &&
  (decide (findIn K (.ref C) "part" = some none) && (decide (findIn K (.ref C) "__init__" = some (some (.ref fI))) && (decide (typeIn K (.ref fI) = some (.type "function")) && (keepIn K (.ref C) && (decide (subIn K (.ref C) (.type "BaseException") = some true) && (decide (typeIn K (.ref C) = some (.type "type")) &&
  (hasDictIn K C && (decide (exmOne K (.ref C) (.ref C) = some true) && (decide (ks_superIn K C C "__init__" = some (some (.builtin "ValueError.__init__"))) && (decide (nsIn K cStatics "thirdparty.any" = some none) && (decide (mroIn K C (.ref C) = some true) && decide (subIn K (.ref C) (.type "ValueError") = some true))))))))))))))))
end BadX
end PySem
namespace Pm
open PySem PySem.Spec PyProof.Rows L2
open PySem.BadX (isN)
def codeAt (K : PySem.W.Frag) (x : Str) : Addr := match K.lookup (He.ga K x) with
  | some ⟨_, _, .func fd, _⟩ => (match fd.code with
    | .ref c => c
    | _ => 0)
  | _ => 0
def tabAt (K : PySem.W.Frag) (x : Str) : Addr := match K.lookup (codeAt K x) with
  | some ⟨_, _, .fields vs, _⟩ => (match (vs[11]? : Option Value) with
    | some (.ref p) => p
    | _ => 0)
  | _ => 0
def isS : Value → Bool
  | .str _ _ => true
  | _ => false
def isI : Value → Bool
  | .int _ _ => true
  | _ => false
def isB : Value → Bool
  | .bool _ => true
  | _ => false
def codeB (K : PySem.W.Frag) (x : Str) : Bool := match K.lookup (codeAt K x) with
  | some ⟨.type ty, _, .fields vs, _⟩ => decide (ty = "code") && (decide (vs[11]? = some (.ref (tabAt K x))) && (decide (vs.getD 11 .none = .ref (tabAt K x)) && (isS (vs.getD 18 .none) && (isI (vs.getD 7 .none) && (isB (vs.getD 9 .none) && (isI (vs.getD 10 .none) &&
    (!decide (codeAt K x = tabAt K x) && (K.lookup (tabAt K x)).isNone)))))))
  | _ => false
/-- the property Desk.claim -/
def prAt (K : PySem.W.Frag) : Addr := He.ma K (He.ga K "Desk") "claim"
def gtAt (K : PySem.W.Frag) : Addr := match PySem.W.recIn K (prAt K) "property" with
  | some (.ref g :: _) => g
  | _ => 0
def prB (K : PySem.W.Frag) : Bool := decide (PySem.W.findIn K (.ref (He.ga K "Desk")) "claim" = some (some (.ref (prAt K)))) && (decide (PySem.W.specialIn K (.ref (prAt K)) "__get__" = some (some (.builtin "property.__get__"))) && (decide (PySem.W.takesIn K (.ref (prAt K)) = some true) &&
  (match PySem.W.recIn K (prAt K) "property" with
  | some (.ref _ :: _) => true
  | _ => false)))
def fnB (K : PySem.W.Frag) (a : Addr) (q : Str) : Bool := PySem.W.keepIn K (.ref a) && (match K.lookup a with
  | some ⟨_, _, .func fd, _⟩ => isN fd.defaults && PySem.W.codeIn K fd.code q
  | _ => false)
end Pm
set_option maxHeartbeats 0
/-! EH: the head: the facts of the text, looked at behind its top -/
namespace Pm
open PySem PySem.Spec PyProof.Rows L2
open PySem.BadX (fnAt FnV2 badB sIni)
def hd_is_whole : He.DefD := ⟨("is_whole", none), "is_whole", "is_whole", defArgs (top 20), defBody (top 20), defScope (top 20), [], []⟩
def hd_wrong_part : He.DefD := ⟨("wrong_part", none), "wrong_part", "wrong_part", defArgs (top 21), defBody (top 21), defScope (top 21), [], []⟩
def hd_need_well : He.DefD := ⟨("need_well", none), "need_well", "need_well", defArgs (top 22), defBody (top 22), defScope (top 22), [], []⟩
def hd_is_number : He.DefD := ⟨("is_number", none), "is_number", "is_number", defArgs (top 23), defBody (top 23), defScope (top 23), [], []⟩
def hd_need_number : He.DefD := ⟨("need_number", none), "need_number", "need_number", defArgs (top 24), defBody (top 24), defScope (top 24), [], []⟩
def hd_are_counts : He.DefD := ⟨("are_counts", none), "are_counts", "are_counts", defArgs (top 25), defBody (top 25), defScope (top 25), [], []⟩
def hd_are_levels : He.DefD := ⟨("are_levels", none), "are_levels", "are_levels", defArgs (top 26), defBody (top 26), defScope (top 26), [], []⟩
def hd_number_of : He.DefD := ⟨("number_of", none), "number_of", "number_of", defArgs (top 28), defBody (top 28), defScope (top 28), [], []⟩
def hd_is_state_of : He.DefD := ⟨("is_state_of", none), "is_state_of", "is_state_of", defArgs (top 27), defBody (top 27), defScope (top 27), [], []⟩
def hd_begun_with : He.DefD := ⟨("begun_with", none), "begun_with", "begun_with", defArgs (top 29), defBody (top 29), defScope (top 29), [], []⟩
def hd_begun : He.DefD := ⟨("begun", none), "begun", "begun", defArgs (top 30), defBody (top 30), defScope (top 30), [], []⟩
def hd_seen_of : He.DefD := ⟨("seen_of", none), "seen_of", "seen_of", defArgs (top 31), defBody (top 31), defScope (top 31), [], []⟩
def hd_moves_of : He.DefD := ⟨("moves_of", none), "moves_of", "moves_of", defArgs (top 32), defBody (top 32), defScope (top 32), [], []⟩
def hd_aged : He.DefD := ⟨("aged", none), "aged", "aged", defArgs (top 33), defBody (top 33), defScope (top 33), [], []⟩
def hd_led_to : He.DefD := ⟨("led_to", none), "led_to", "led_to", defArgs (top 34), defBody (top 34), defScope (top 34), [], []⟩
def hd_after_in : He.DefD := ⟨("after_in", none), "after_in", "after_in", defArgs (top 35), defBody (top 35), defScope (top 35), [], []⟩
def hd_is_inflow : He.DefD := ⟨("is_inflow", none), "is_inflow", "is_inflow", defArgs (top 36), defBody (top 36), defScope (top 36), [], []⟩
def hd_need_state : He.DefD := ⟨("need_state", none), "need_state", "need_state", defArgs (top 37), defBody (top 37), defScope (top 37), [], []⟩
def hd_after : He.DefD := ⟨("after", none), "after", "after", defArgs (top 38), defBody (top 38), defScope (top 38), [], []⟩
def hd_is_range : He.DefD := ⟨("is_range", none), "is_range", "is_range", defArgs (top 43), defBody (top 43), defScope (top 43), [], []⟩
def hd_need_claim : He.DefD := ⟨("need_claim", none), "need_claim", "need_claim", defArgs (top 44), defBody (top 44), defScope (top 44), [], []⟩
def hd_beats_of : He.DefD := ⟨("beats_of", none), "beats_of", "beats_of", defArgs (top 45), defBody (top 45), defScope (top 45), [], []⟩
def hd_begun_states : He.DefD := ⟨("begun_states", none), "begun_states", "begun_states", defArgs (top 46), defBody (top 46), defScope (top 46), [], []⟩
def hd_is_run : He.DefD := ⟨("is_run", none), "is_run", "is_run", defArgs (top 53), defBody (top 53), defScope (top 53), [], []⟩
def hd_searched : He.DefD := ⟨("searched", none), "searched", "searched", defArgs (top 48), defBody (top 48), defScope (top 48), [], []⟩
def hd_verdict : He.DefD := ⟨("verdict", none), "verdict", "verdict", defArgs (top 49), defBody (top 49), defScope (top 49), [], []⟩
def hd_states : He.DefD := ⟨("states", none), "states", "states", defArgs (top 50), defBody (top 50), defScope (top 50), [], []⟩
def hd_cut_of : He.DefD := ⟨("cut_of", none), "cut_of", "cut_of", defArgs (top 57), defBody (top 57), defScope (top 57), [], []⟩
def hd_cut : He.DefD := ⟨("cut", none), "cut", "cut", defArgs (top 58), defBody (top 58), defScope (top 58), [], []⟩
def hd_safety_paper : He.DefD := ⟨("safety_paper", none), "safety_paper", "safety_paper", defArgs (top 52), defBody (top 52), defScope (top 52), [], []⟩
def hd_is_table : He.DefD := ⟨("is_table", none), "is_table", "is_table", defArgs (top 54), defBody (top 54), defScope (top 54), [], []⟩
def hd_check_safety : He.DefD := ⟨("check_safety", none), "check_safety", "check_safety", defArgs (top 55), defBody (top 55), defScope (top 55), [], []⟩
def hd_integer_of : He.DefD := ⟨("integer_of", none), "integer_of", "integer_of", defArgs (top 68), defBody (top 68), defScope (top 68), [], []⟩
def hd_claim_text : He.DefD := ⟨("claim_text", none), "claim_text", "claim_text", defArgs (top 69), defBody (top 69), defScope (top 69), [], []⟩
def hd_is_line_right : He.DefD := ⟨("is_line_right", none), "is_line_right", "is_line_right", defArgs (top 70), defBody (top 70), defScope (top 70), [], []⟩
def hd_row_told : He.DefD := ⟨("row_told", none), "row_told", "row_told", defArgs (top 78), defBody (top 78), defScope (top 78), [], []⟩
def hd_read_claim : He.DefD := ⟨("read_claim", none), "read_claim", "read_claim", defArgs (top 71), defBody (top 71), defScope (top 71), [], []⟩
def hd__law_start : He.DefD := ⟨("_law_start", none), "_law_start", "_law_start", defArgs (top 81), defBody (top 81), defScope (top 81), [], []⟩
def hd__law_next : He.DefD := ⟨("_law_next", none), "_law_next", "_law_next", defArgs (top 82), defBody (top 82), defScope (top 82), [], []⟩
def hd__law_small : He.DefD := ⟨("_law_small", none), "_law_small", "_law_small", defArgs (top 83), defBody (top 83), defScope (top 83), [], []⟩
def hd__law_beat : He.DefD := ⟨("_law_beat", none), "_law_beat", "_law_beat", defArgs (top 84), defBody (top 84), defScope (top 84), [], []⟩
def hd__law_first : He.DefD := ⟨("_law_first", none), "_law_first", "_law_first", defArgs (top 85), defBody (top 85), defScope (top 85), [], []⟩
def hd__law_shortest : He.DefD := ⟨("_law_shortest", none), "_law_shortest", "_law_shortest", defArgs (top 86), defBody (top 86), defScope (top 86), [], []⟩
def hd__law_is_refused : He.DefD := ⟨("_law_is_refused", none), "_law_is_refused", "_law_is_refused", defArgs (top 87), defBody (top 87), defScope (top 87), [], []⟩
def hd__law_led : He.DefD := ⟨("_law_led", none), "_law_led", "_law_led", defArgs (top 88), defBody (top 88), defScope (top 88), [], []⟩
def hd__law_run_right : He.DefD := ⟨("_law_run_right", none), "_law_run_right", "_law_run_right", defArgs (top 89), defBody (top 89), defScope (top 89), [], []⟩
def hd__law_table_right : He.DefD := ⟨("_law_table_right", none), "_law_table_right", "_law_table_right", defArgs (top 90), defBody (top 90), defScope (top 90), [], []⟩
def hd__law_right : He.DefD := ⟨("_law_right", none), "_law_right", "_law_right", defArgs (top 91), defBody (top 91), defScope (top 91), [], []⟩
def hd_law : He.DefD := ⟨("law", none), "law", "law", defArgs (top 92), defBody (top 92), defScope (top 92), [], []⟩
def hd_Search_run_to : He.DefD := ⟨("Search", some "run_to"), "run_to", "Search.run_to", defArgs (inClass (top 47) 2), defBody (inClass (top 47) 2), defScope (inClass (top 47) 2), [], []⟩
def hd_Search_behind : He.DefD := ⟨("Search", some "behind"), "behind", "Search.behind", defArgs (inClass (top 47) 1), defBody (inClass (top 47) 1), defScope (inClass (top 47) 1), [], []⟩
def hd_Search___init__ : He.DefD := ⟨("Search", some "__init__"), "__init__", "Search.__init__", defArgs (inClass (top 47) 0), defBody (inClass (top 47) 0), defScope (inClass (top 47) 0), [], []⟩
def hd_Search_word : He.DefD := ⟨("Search", some "word"), "word", "Search.word", defArgs (inClass (top 47) 3), defBody (inClass (top 47) 3), defScope (inClass (top 47) 3), [], []⟩
def hd_Desk___init__ : He.DefD := ⟨("Desk", some "__init__"), "__init__", "Desk.__init__", defArgs (inClass (top 79) 0), defBody (inClass (top 79) 0), defScope (inClass (top 79) 0), [], []⟩
def hd_Desk_take_well : He.DefD := ⟨("Desk", some "take_well"), "take_well", "Desk.take_well", defArgs (inClass (top 79) 3), defBody (inClass (top 79) 3), defScope (inClass (top 79) 3), [], []⟩
def hd_Desk_change : He.DefD := ⟨("Desk", some "change"), "change", "Desk.change", defArgs (inClass (top 79) 4), defBody (inClass (top 79) 4), defScope (inClass (top 79) 4), [], []⟩
def hd_Desk_beat : He.DefD := ⟨("Desk", some "beat"), "beat", "Desk.beat", defArgs (inClass (top 79) 7), defBody (inClass (top 79) 7), defScope (inClass (top 79) 7), [], []⟩
def hd_Desk_counted : He.DefD := ⟨("Desk", some "counted"), "counted", "Desk.counted", defArgs (inClass (top 79) 8), defBody (inClass (top 79) 8), defScope (inClass (top 79) 8), [], []⟩
def hd_Desk_with_words : He.DefD := ⟨("Desk", some "with_words"), "with_words", "Desk.with_words", defArgs (inClass (top 79) 9), defBody (inClass (top 79) 9), defScope (inClass (top 79) 9), [], []⟩
def hd_Desk_answered : He.DefD := ⟨("Desk", some "answered"), "answered", "Desk.answered", defArgs (inClass (top 79) 10), defBody (inClass (top 79) 10), defScope (inClass (top 79) 10), [], []⟩
def hd_Desk_say : He.DefD := ⟨("Desk", some "say"), "say", "Desk.say", defArgs (inClass (top 79) 11), defBody (inClass (top 79) 11), defScope (inClass (top 79) 11), [], []⟩
def faM0 : List He.Fa := [.glo "is_whole", .glo "wrong_part", .glo "need_well", .glo "is_number", .glo "need_number", .glo "are_counts", .glo "are_levels", .glo "number_of", .glo "is_state_of", .glo "begun_with", .glo "begun", .glo "seen_of", .glo "moves_of", .glo "aged", .glo "led_to", .glo "after_in", .glo "is_inflow", .glo "need_state", .glo "after", .glo "is_range", .glo "need_claim", .glo "beats_of", .glo "begun_states", .glo "is_run", .glo "searched"]
def faM1 : List He.Fa := [.glo "verdict", .glo "states", .glo "cut_of", .glo "cut", .glo "safety_paper", .glo "is_table", .glo "check_safety", .glo "integer_of", .glo "claim_text", .glo "is_line_right", .glo "row_told", .glo "read_claim", .glo "_law_start", .glo "_law_next", .glo "_law_small", .glo "_law_beat", .glo "_law_first", .glo "_law_shortest", .glo "_law_is_refused", .glo "_law_led", .glo "_law_run_right", .glo "_law_table_right", .glo "_law_right", .glo "law", .glo "Search"]
def faM2 : List He.Fa := [.glo "Desk", .glo "BadPaper", .free "isinstance", .free "int", .free "bool", .free "str", .free "tuple", .free "list", .free "dict", .free "len", .free "sum", .free "min", .free "max", .free "all", .free "range", .free "zip", .free "sorted", .free "repr", .free "enumerate", .free "super", .int "MOST_TOP" 200, .int "MOST_DRAIN" 50, .int "MOST_AGE" 5, .int "MOST_STARTS" 5, .int "MOST_STEP" 20]
def faM3 : List He.Fa := [.int "MOST_LAG" 3, .int "MOST_NUMBER" 50, .int "MOST_COUNT" 1000, .int "MOST_INFLOW" 300, .int "MOST_STATES" 20000, .int "MOST_FIGURES" 31, .int "MANY_LINES" 3, .str "OVER" "over", .str "DRY" "dry", .str "SAFE" "safe", .str "BOTH" "both", .str "LINE_END" "\n", .str "BLANK" " ", .str "DIGITS" "0123456789", .str "NO" "no", .str "NONE" "none", .str "DONE" "done", .str "BAR" "|", .str "ENDLESS" "endless", .cls "Search", .cls "Desk", .mkr "Search", .mkr "Desk", .noat "Search" "known", .noat "Search" "runs"]
def faM4 : List He.Fa := [.noat "Search" "busy", .noat "Desk" "own_claim", .noat "Desk" "own_state", .meth "Search" "run_to", .meth "Search" "behind", .meth "Search" "word", .meth "Desk" "take_well", .meth "Desk" "change", .meth "Desk" "beat", .meth "Desk" "counted", .meth "Desk" "with_words", .meth "Desk" "answered", .meth "Desk" "say"]
def faM : List He.Fa := faM0 ++ faM1 ++ faM2 ++ faM3 ++ faM4
def fnM0 : List He.DefD := [hd_is_whole, hd_wrong_part, hd_need_well, hd_is_number, hd_need_number, hd_are_counts, hd_are_levels, hd_number_of, hd_is_state_of, hd_begun_with, hd_begun, hd_seen_of, hd_moves_of, hd_aged, hd_led_to, hd_after_in, hd_is_inflow, hd_need_state, hd_after, hd_is_range, hd_need_claim, hd_beats_of, hd_begun_states, hd_is_run, hd_searched]
def fnM1 : List He.DefD := [hd_verdict, hd_states, hd_cut_of, hd_cut, hd_safety_paper, hd_is_table, hd_check_safety, hd_integer_of, hd_claim_text, hd_is_line_right, hd_row_told, hd_read_claim, hd__law_start, hd__law_next, hd__law_small, hd__law_beat, hd__law_first, hd__law_shortest, hd__law_is_refused, hd__law_led, hd__law_run_right, hd__law_table_right, hd__law_right, hd_law, hd_Search_run_to]
def fnM2 : List He.DefD := [hd_Search_behind, hd_Search___init__, hd_Search_word, hd_Desk___init__, hd_Desk_take_well, hd_Desk_change, hd_Desk_beat, hd_Desk_counted, hd_Desk_with_words, hd_Desk_answered, hd_Desk_say]
def fnM : List He.DefD := fnM0 ++ fnM1 ++ fnM2
def nmM0 : List PySem.Str := ["__name__", "BadWell", "BadClaim", "BadPaper", "BadText", "OutOfPlace", "TooGreat", "Nothing", "MOST_TOP", "MOST_DRAIN", "MOST_AGE", "MOST_STARTS", "MOST_STEP", "MOST_LAG", "MOST_NUMBER", "MOST_COUNT", "MOST_INFLOW", "OVER", "DRY", "is_whole", "wrong_part", "need_well", "is_number", "need_number", "are_counts", "are_levels", "is_state_of", "number_of", "begun_with", "begun"]
def nmM1 : List PySem.Str := ["seen_of", "moves_of", "aged", "led_to", "after_in", "is_inflow", "need_state", "after", "MOST_STATES", "SAFE", "BOTH", "is_range", "need_claim", "beats_of", "begun_states", "Search", "searched", "verdict", "states", "swing", "safety_paper", "is_run", "is_table", "check_safety", "cut_of", "cut", "need_few", "verdicts", "least_number", "LINE_END"]
def nmM2 : List PySem.Str := ["BLANK", "DIGITS", "MOST_FIGURES", "MANY_LINES", "integer_of", "claim_text", "is_line_right", "read_claim", "NO", "NONE", "DONE", "BAR", "ENDLESS", "row_told", "Desk", "_law_start", "_law_next", "_law_small", "_law_beat", "_law_first", "_law_shortest", "_law_is_refused", "_law_led", "_law_run_right", "_law_table_right", "_law_right"]
def nmsM : List PySem.Str := nmM0 ++ nmM1 ++ nmM2
abbrev RWM : PySem.W.OpenRow := PySem.W.OpenLaw.row PySem.Challenge.rw_pumphouse_k97_whole_way_of_claims
abbrev PGM : Program := PySem.Challenge.pw_pumphouse_k97_whole_way_of_claims
def nR : Str := "_law_run_right"
def nT : Str := "_law_table_right"
def bpC (K : PySem.W.Frag) : Addr := He.ga K "BadPaper"
def bpI (K : PySem.W.Frag) : Addr := He.ma K (bpC K) "__init__"
abbrev ObsM : Type := (He.AlD × Bool) × List FnV2
def moreB (K : PySem.W.Frag) : Bool := prB K && (fnB K (gtAt K) "Desk.claim" && (badB K (bpC K) (bpI K) PGM.main.file && (codeB K nR && (codeB K nT && !decide (tabAt K nR = tabAt K nT)))))
def obsK (K : PySem.W.Frag) : ObsM := ((He.obsD faM fnM K, moreB K), [fnAt K (gtAt K), fnAt K (bpI K)])
def valK : ObsM := ((He.valD fnM, true), [some ("claim", "Desk.claim", defArgs (inClass (top 79) 1), .stmts (defBody (inClass (top 79) 1)), defScope (inClass (top 79) 1), mainGlobals, [], builtinsNs), some ("__init__", "BadPaper.__init__", defArgs sIni, .stmts (defBody sIni), defScope sIni, mainGlobals, ["__class__"], builtinsNs)])
def refsP (o : Obj) : List Addr := match o.data with
  | .func fd => He.refV fd.code ++ fd.closure.map (·.2)
  | .cls cd => [cd.ns]
  | .dict es _ => es.toList.flatMap fun e => He.refV e.val
  | .fields vs => (match o.cls with
    | .type t => if t = "property" then vs.toList.flatMap He.refV else []
    | _ => [])
  | _ => []
def stepP (g : Addr → Option Obj) (as : List Addr) : List Addr := as.flatMap fun a => match g a with
  | some o => refsP o
  | none => []
def layP (g : Addr → Option Obj) : Nat → List Addr → List Addr
  | 0, as => as
  | n + 1, as => as ++ layP g n (stepP g as)
def KF (g : Addr → Option Obj) : PySem.W.Frag := He.frG g (cStatics :: layP g 5 [mainGlobals])
def emptyB (g : Addr → Option Obj) (p : Addr) : Bool := match g p with
  | some ⟨.none, none, .fields vs, sl⟩ => vs.isEmpty && sl.isEmpty
  | _ => false
def obsG (g : Addr → Option Obj) : ObsM × Bool := (obsK (KF g), emptyB g (tabAt (KF g) nR) && emptyB g (tabAt (KF g) nT))
abbrev tabO : Obj := { cls := .none, data := .fields #[] }
theorem emptyB_ok {g : Addr → Option Obj} {p : Addr} (h : emptyB g p = true) : g p = some tabO := by
  unfold emptyB at h
  split at h
  · rename_i vs sl e
    obtain ⟨h1, h2⟩ := Bool.and_eq_true_iff.mp h
    rw [e]
    obtain ⟨l⟩ := vs
    obtain ⟨l2⟩ := sl
    cases l with
    | nil => cases l2 with
      | nil => rfl
      | cons a r => simp at h2
    | cons a r => simp at h1
  · cases h
def hkM : PySem.W.Hook where
  α := ObsM × Bool
  obs := fun s => obsG s.heap.get?
  val := fun _ => (valK, true)
  says := fun _ h => ∃ K : PySem.W.Frag, K.In h ∧ obsK K = valK ∧ h.get? (tabAt K nR) = some tabO ∧ h.get? (tabAt K nT) = some tabO
  of := fun _ s e => by
    have e1 : obsK (KF s.heap.get?) = valK := congrArg Prod.fst e
    obtain ⟨e2, e3⟩ := Bool.and_eq_true_iff.mp (congrArg Prod.snd e)
    exact ⟨_, He.frG_in, e1, emptyB_ok e2, emptyB_ok e3⟩
  keeps := fun _ _ _ ⟨K, hK, c, t1, t2⟩ k => ⟨K, PySem.W.Frag.In.keeps hK k, c, k _ _ t1, k _ _ t2⟩
def obM (s : PySem.W.SharedT) : ObsM × Bool := obsG (HandSHeadRun.getT s)
theorem obM_eq (s : PySem.W.SharedT) : obM s = hkM.obs s.abs := by
  have e : HandSHeadRun.getT s = s.abs.heap.get? := funext fun a => HandSHeadRun.getT_eq s a
  show obsG (HandSHeadRun.getT s) = obsG s.abs.heap.get?
  rw [e]
theorem runM (w : World) : HandSHeadRun.RunEq RWM (PySem.W.view RWM.prog [92]) hkM obM 6000 nmsM w := by
  intro os
  kernel_rfl
end Pm
set_option maxHeartbeats 4000000
/-! Pd: expressions over plain data as partial Lean functions. -/
namespace L2
open PySem PySem.Spec PyProof.Rows

/-! ### data stays -/
theorem same_t {K : PySem.W.Frag} {H H' : Hp} {a : Addr} {xs : List V} (e : Same H H') (h : SqT K H a xs) : SqT K H' a xs := by
  rcases h with (h | ⟨o, h⟩) | h
  · exact .inl (.inl (e _ _ h))
  · exact .inl (.inr ⟨o, e _ _ h⟩)
  · exact .inr h
mutual
theorem Dp.same {K : PySem.W.Frag} {H H' : Hp} (e : Same H H') : ∀ {d : PyData} {v : V}, Dp K H v d → Dp K H' v d
  | _, _, .non => .non
  | _, _, .bl b => .bl b
  | _, _, .int i => .int i
  | _, _, .str x => .str x
  | _, _, .lst h r => .lst (e.seq h) (DpAll.same e r)
  | _, _, .tup h r => .tup (same_t e h) (DpAll.same e r)
theorem DpAll.same {K : PySem.W.Frag} {H H' : Hp} (e : Same H H') : ∀ {ds : List PyData} {vs : List V}, DpAll K H vs ds → DpAll K H' vs ds
  | _, _, .nil => .nil
  | _, _, .cons h r => .cons (Dp.same e h) (DpAll.same e r)
end
theorem Same.new {H : Hp} {p : Addr} {o : HO} (h : H p = none) : Same H (upd H p o) := fun a u e => by
  rw [upd_ne (ne_of_none e h)]
  exact e
theorem DpAll.length {K : PySem.W.Frag} {H : Hp} : ∀ {vs : List V} {ds : List PyData}, DpAll K H vs ds → vs.length = ds.length
  | _, _, .nil => rfl
  | _, _, .cons _ r => by simp [DpAll.length r]
theorem DpAll.get {K : PySem.W.Frag} {H : Hp} : ∀ {vs : List V} {ds : List PyData} {i : Nat} {d : PyData}, DpAll K H vs ds → ds[i]? = some d → ∃ v, vs[i]? = some v ∧ Dp K H v d
  | _, _, _, _, .nil, e => by simp at e
  | _, _, 0, _, .cons h _, e => by simp at e; subst e; exact ⟨_, rfl, h⟩
  | _, _, i + 1, _, .cons _ r, e => by
    obtain ⟨v, h1, h2⟩ := DpAll.get (i := i) r (by simpa using e)
    exact ⟨v, by simpa using h1, h2⟩
theorem DpAll.get' {K : PySem.W.Frag} {H : Hp} : ∀ {vs : List V} {ds : List PyData} {i : Nat} {v : V}, DpAll K H vs ds → vs[i]? = some v → ∃ d, ds[i]? = some d ∧ Dp K H v d
  | _, _, _, _, .nil, e => by simp at e
  | _, _, 0, _, .cons h _, e => by simp at e; subst e; exact ⟨_, rfl, h⟩
  | _, _, i + 1, _, .cons _ r, e => by
    obtain ⟨v, h1, h2⟩ := DpAll.get' (i := i) r (by simpa using e)
    exact ⟨v, by simpa using h1, h2⟩
theorem DpAll.append {K : PySem.W.Frag} {H : Hp} : ∀ {vs ws : List V} {ds es : List PyData}, DpAll K H vs ds → DpAll K H ws es → DpAll K H (vs ++ ws) (ds ++ es)
  | _, _, _, _, .nil, s => s
  | _, _, _, _, .cons r t, s => .cons r (DpAll.append t s)
theorem DpAll.take {K : PySem.W.Frag} {H : Hp} : ∀ {vs : List V} {ds : List PyData} (n : Nat), DpAll K H vs ds → DpAll K H (vs.take n) (ds.take n)
  | _, _, 0, _ => .nil
  | _, _, _ + 1, .nil => .nil
  | _, _, n + 1, .cons r t => .cons r (DpAll.take n t)
theorem DpAll.drop {K : PySem.W.Frag} {H : Hp} : ∀ {vs : List V} {ds : List PyData} (n : Nat), DpAll K H vs ds → DpAll K H (vs.drop n) (ds.drop n)
  | _, _, 0, r => r
  | _, _, _ + 1, .nil => .nil
  | _, _, n + 1, .cons _ t => DpAll.drop n t
theorem DpAll.ints {K : PySem.W.Frag} {H : Hp} : ∀ {ns : List Int} {vs : List V}, DpAll K H vs (ns.map PyData.int) → vs = ns.map V.int
  | [], _, .nil => rfl
  | n :: ns, _, .cons h r => by
    cases h
    rw [DpAll.ints r]
    rfl
theorem DpAll.of_ints {K : PySem.W.Frag} {H : Hp} : ∀ (ns : List Int), DpAll K H (ns.map V.int) (ns.map PyData.int)
  | [] => .nil
  | n :: ns => .cons (.int n) (DpAll.of_ints ns)

/-! ### readings over data -/
abbrev DE := List (Option PyData)
def EnvD (K : PySem.W.Frag) (H : Hp) (σ : St) (ρ : DE) : Prop := σ.length = ρ.length ∧ ∀ (i : Nat) (d : PyData), ρ[i]? = some (some d) → ∃ v, σ[i]? = some (some v) ∧ Dp K H v d
theorem EnvD.same {K : PySem.W.Frag} {H H' : Hp} {σ : St} {ρ : DE} (e : Same H H') (h : EnvD K H σ ρ) : EnvD K H' σ ρ := ⟨h.1, fun i d hi => by
  obtain ⟨v, h1, h2⟩ := h.2 i d hi
  exact ⟨v, h1, h2.same e⟩⟩
theorem EnvD.set {K : PySem.W.Frag} {H : Hp} {σ : St} {ρ : DE} {j : Nat} {v : V} {d : PyData} (h : EnvD K H σ ρ) (hv : Dp K H v d) : EnvD K H (σ.set j (some v)) (ρ.set j (some d)) := by
  refine ⟨by simp [h.1], fun i d' hi => ?_⟩
  by_cases hj : j = i
  · subst hj
    by_cases hl : j < ρ.length
    · rw [List.getElem?_set_self hl] at hi
      cases hi
      exact ⟨v, by rw [List.getElem?_set_self (by rw [h.1]; exact hl)], hv⟩
    · rw [List.getElem?_eq_none (by simpa using hl)] at hi
      cases hi
  · rw [List.getElem?_set_ne hj] at hi
    obtain ⟨w, h1, h2⟩ := h.2 i d' hi
    exact ⟨w, by rw [List.getElem?_set_ne hj]; exact h1, h2⟩
theorem EnvD.unset {K : PySem.W.Frag} {H : Hp} {σ : St} {ρ : DE} {j : Nat} (h : EnvD K H σ ρ) : EnvD K H (σ.set j none) (ρ.set j none) := by
  refine ⟨by simp [h.1], fun i d' hi => ?_⟩
  by_cases hj : j = i
  · subst hj
    by_cases hl : j < ρ.length
    · rw [List.getElem?_set_self hl] at hi
      cases hi
    · rw [List.getElem?_eq_none (by simpa using hl)] at hi
      cases hi
  · rw [List.getElem?_set_ne hj] at hi
    obtain ⟨w, h1, h2⟩ := h.2 i d' hi
    exact ⟨w, by rw [List.getElem?_set_ne hj]; exact h1, h2⟩
def tD (K : PySem.W.Frag) (f : DE → Option PyData) : TE := fun σ H Q => ∃ ρ d, EnvD K H σ ρ ∧ f ρ = some d ∧ ∀ v H', Same H H' → Dp K H' v d → Q v H'
def tDT (K : PySem.W.Frag) (f : DE → Option Bool) : TT := fun σ H Q => ∃ ρ b, EnvD K H σ ρ ∧ f ρ = some b ∧ ∀ H', Same H H' → Q b H'
def tDA (K : PySem.W.Frag) (f : DE → Option (List PyData)) : TA := fun σ H Q => ∃ ρ ds, EnvD K H σ ρ ∧ f ρ = some ds ∧ ∀ vs H', Same H H' → DpAll K H' vs ds → Q vs H'
section
variable {X : Cx} {e e2 e3 : Expr} {pos : Pos}
theorem PE.imp {t t' : TE} (h : PE X e t) (i : ∀ σ H Q, t' σ H Q → t σ H Q) : PE X e t' := ⟨fun pins s σ H Q I hw => h.run pins s σ H Q I (i σ H Q hw)⟩
theorem PT.imp {t t' : TT} (h : PT X e t) (i : ∀ σ H Q, t' σ H Q → t σ H Q) : PT X e t' := ⟨fun pins s σ H Q I hw => h.run pins s σ H Q I (i σ H Q hw)⟩
theorem PW.imp {t t' : TT} (h : PW X e t) (i : ∀ σ H Q, t' σ H Q → t σ H Q) : PW X e t' := ⟨fun wh pins s σ H Q I hw => h.run wh pins s σ H Q I (i σ H Q hw)⟩
theorem PA.imp {es : List Expr} {t t' : TA} (h : PA X es t) (i : ∀ σ H Q, t' σ H Q → t σ H Q) : PA X es t' := ⟨fun pos pins s σ H Q I hw => h.run pos pins s σ H Q I (i σ H Q hw)⟩
theorem PSs.imp {sts : List Stmt} {t t' : TS} (h : PSs X sts t) (i : ∀ D σ H, t' D σ H → t D σ H) : PSs X sts t' := ⟨fun pins s σ H D I hw => h.run pins s σ H D I (i D σ H hw)⟩
theorem PS.imp {st : Stmt} {t t' : TS} (h : PS X st t) (i : ∀ D σ H, t' D σ H → t D σ H) : PS X st t' := ⟨fun pins s σ H D I hw => h.run pins s σ H D I (i D σ H hw)⟩

/-! ### names, constants -/
@[simp] def fVar (i : Nat) : DE → Option PyData := fun ρ => (ρ[i]?).join
theorem fVar_some {i : Nat} {ρ : DE} {d : PyData} (h : fVar i ρ = some d) : ρ[i]? = some (some d) := by
  unfold fVar at h
  cases q : ρ[i]? with
  | none => rw [q] at h; cases h
  | some o => rw [q] at h; cases o with
    | none => cases h
    | some x => cases h; rfl
theorem dvar (i : Nat) {x : Str} (h : PE X (.Name x pos) (tVar i)) : PE X (.Name x pos) (tD X.K (fVar i)) := h.imp fun σ H Q ⟨ρ, d, he, hf, q⟩ => by
  obtain ⟨v, h1, h2⟩ := he.2 i d (fVar_some hf)
  exact ⟨v, h1, q v H (Same.refl H) h2⟩
/-- the name that stands in the i-th slot -/
theorem pd (i : Nat) {x : Str} (hN : X.N[i]? = some x := by rfl) (hv : Vis X.env.scope x := by first | exact Or.inl rfl | exact Or.inr (Or.inl rfl) | exact Or.inr (Or.inr rfl)) (hd : (x == ("__debug__" : Str)) = false := by decide)
    (hcd : (x == ("__classdict__" : Str)) = false := by decide) : PE X (.Name x pos) (tD X.K (fVar i)) := dvar i (pe_var hN hv hd hcd)
@[simp] def fC (d : PyData) : DE → Option PyData := fun _ => some d
theorem dconst {v : V} {d : PyData} (h : PE X e (tC v)) (hd : ∀ H, Dp X.K H v d) : PE X e (tD X.K (fC d)) := h.imp fun σ H Q ⟨ρ, d', he, hf, q⟩ => by
  cases hf
  exact q v H (Same.refl H) (hd H)
theorem d_int {i : Int} {j} : PE X (.Constant (.int i) j pos) (tD X.K (fC (.int i))) := dconst pe_int fun _ => .int i
theorem d_bl {b : Bool} {j} : PE X (.Constant (.bool b) j pos) (tD X.K (fC (.bool b))) := dconst pe_bl fun _ => .bl b
theorem d_non {j} : PE X (.Constant .none j pos) (tD X.K (fC .none)) := dconst pe_non fun _ => .non
theorem d_str {x : Str} {j} : PE X (.Constant (.str x) j pos) (tD X.K (fC (.str x))) := dconst pe_str fun _ => .str x
theorem d_gint {x : Str} {i : Int} (hm : ∃ t, X.mg x = some (.int i t)) (hg : Gl X x := by rfl) (hd : (x == ("__debug__" : Str)) = false := by decide) : PE X (.Name x pos) (tD X.K (fC (.int i))) := by
  obtain ⟨t, hm⟩ := hm
  exact dconst (pe_glob hg hm (v := .int i) ⟨t, rfl⟩ hd) fun _ => .int i
theorem d_gstr {x : Str} {z : Str} (hm : ∃ t, X.mg x = some (.str z t)) (hg : Gl X x := by rfl) (hd : (x == ("__debug__" : Str)) = false := by decide) : PE X (.Name x pos) (tD X.K (fC (.str z))) := by
  obtain ⟨t, hm⟩ := hm
  exact dconst (pe_glob hg hm (v := .str z) ⟨t, rfl⟩ hd) fun _ => .str z

/-! ### two operands -/
@[simp] def f2 (g : PyData → PyData → Option PyData) (fa fb : DE → Option PyData) : DE → Option PyData := fun ρ => (fa ρ).bind fun x => (fb ρ).bind fun y => g x y
/-- an operation by values that leaves all as it is or adds to it -/
def OpD (K : PySem.W.Frag) (r : R2) (g : PyData → PyData → Option PyData) : Prop := ∀ x y a b d H (Q : VK), Dp K H x a → Dp K H y b → g a b = some d → (∀ v H', Same H H' → Dp K H' v d → Q v H') → r x y H Q
theorem f2_some {g : PyData → PyData → Option PyData} {fa fb : DE → Option PyData} {ρ : DE} {d : PyData} (h : f2 g fa fb ρ = some d) : ∃ x y, fa ρ = some x ∧ fb ρ = some y ∧ g x y = some d := by
  unfold f2 at h
  obtain ⟨x, h1, h2⟩ := Option.bind_eq_some_iff.mp h
  obtain ⟨y, h3, h4⟩ := Option.bind_eq_some_iff.mp h2
  exact ⟨x, y, h1, h3, h4⟩
theorem op_run {K : PySem.W.Frag} {r : R2} {g : PyData → PyData → Option PyData} {fa fb : DE → Option PyData} (o : OpD K r g) {σ : St} {H : Hp} {Q : VK} (h : tD K (f2 g fa fb) σ H Q) : tOp r (tD K fa) (tD K fb) σ H Q := by
  obtain ⟨ρ, d, he, hf, q⟩ := h
  obtain ⟨x, y, h1, h2, h3⟩ := f2_some hf
  exact ⟨ρ, x, he, h1, fun v H1 s1 d1 => ⟨ρ, y, he.same s1, h2, fun u H2 s2 d2 => o v u x y d H2 Q (d1.same s2) d2 h3 fun z H3 s3 d3 => q z H3 ((s1.trans s2).trans s3) d3⟩⟩
theorem d_bin {op : Operator} {r : R2} {g : PyData → PyData → Option PyData} {fa fb : DE → Option PyData} (ho : OpR X (binaryOp op) r) (o : OpD X.K r g) (ha : PE X e (tD X.K fa)) (hb : PE X e2 (tD X.K fb)) : PE X (.BinOp e op e2 pos) (tD X.K (f2 g fa fb)) :=
  (pe_op ho ha hb).imp fun _ _ _ h => op_run o h
theorem d_cmp {op : CmpOp} {r : R2} {g : PyData → PyData → Option PyData} {fa fb : DE → Option PyData} (ho : OpR X (compareOp op) r) (o : OpD X.K r g) (ha : PE X e (tD X.K fa)) (hb : PE X e2 (tD X.K fb)) (hm : behindInMarks op e2 = false) : PE X (.Compare e [op] [e2] pos) (tD X.K (f2 g fa fb)) :=
  (pe_cmpR ho ha hb hm).imp fun _ _ _ h => op_run o h
/-- a value as a test -/
def asB : PyData → Option Bool
  | .bool b => some b
  | _ => none
@[simp] theorem asB_bool (b : Bool) : asB (.bool b) = some b := rfl
@[simp] def fT (f : DE → Option PyData) : DE → Option Bool := fun ρ => (f ρ).bind asB
theorem fT_some {f : DE → Option PyData} {ρ : DE} {b : Bool} (h : fT f ρ = some b) : f ρ = some (.bool b) := by
  unfold fT at h
  obtain ⟨x, h1, h2⟩ := Option.bind_eq_some_iff.mp h
  cases x <;> first | cases h2 | skip
  exact h1
theorem test_run {K : PySem.W.Frag} {f : DE → Option PyData} {σ : St} {H : Hp} {Q : Bool → Hp → Prop} (h : tDT K (fT f) σ H Q) : tTest (tD K f) σ H Q := by
  obtain ⟨ρ, b, he, hf, q⟩ := h
  refine ⟨ρ, _, he, fT_some hf, fun v H1 s1 d1 => ?_⟩
  cases d1
  exact ⟨b, rfl, q H1 s1⟩
theorem t_cmp {op : CmpOp} {r : R2} {g : PyData → PyData → Option PyData} {fa fb : DE → Option PyData} (ho : OpR X (compareOp op) r) (o : OpD X.K r g) (ha : PE X e (tD X.K fa)) (hb : PE X e2 (tD X.K fb)) (hm : behindInMarks op e2 = false) : PT X (.Compare e [op] [e2] pos) (tDT X.K (fT (f2 g fa fb))) :=
  (pt_cmpR ho ha hb hm).imp fun σ H Q ⟨ρ, b, he, hf, q⟩ => by
    obtain ⟨x, y, h1, h2, h3⟩ := f2_some (fT_some hf)
    refine ⟨ρ, x, he, h1, fun v H1 s1 d1 => ⟨ρ, y, he.same s1, h2, fun u H2 s2 d2 => o v u x y _ H2 _ (d1.same s2) d2 h3 fun z H3 s3 d3 => ?_⟩⟩
    cases d3
    exact ⟨b, rfl, q H3 ((s1.trans s2).trans s3)⟩
theorem t_val {f : DE → Option PyData} (h : PE X e (tD X.K f)) (he : ∀ whole, isTrue e X.env whole = (do let v ← whole; standAt e.pos; holding [v] (truthy v)) := by intro _; rfl) : PT X e (tDT X.K (fT f)) :=
  (pt_val h he).imp fun σ H Q hq => test_run hq
end
end L2
set_option maxHeartbeats 4000000
/-! PdB: operators, tests, displays, subscripts, built-ins over plain data. -/
namespace L2
open PySem PySem.Spec PyProof.Rows

/-! ### operators -/
@[simp] def zBig : Nat := 100000
theorem zBig_le {n : Nat} (h : n ≤ zBig) : n ≤ sizeLine := Nat.le_trans h (by rw [sizeLine_eq]; decide)
def gAdd : PyData → PyData → Option PyData
  | .int a, .int b => some (.int (a + b))
  | .str a, .str b => if a.length + b.length ≤ zBig then some (.str (a ++ b)) else none
  | .tuple a, .tuple b => if a.length + b.length ≤ zBig then some (.tuple (a ++ b)) else none
  | _, _ => none
@[simp] theorem gAdd_int (a b : Int) : gAdd (.int a) (.int b) = some (.int (a + b)) := rfl
@[simp] theorem gAdd_str (a b : Str) : gAdd (.str a) (.str b) = if a.length + b.length ≤ zBig then some (.str (a ++ b)) else none := rfl
@[simp] theorem gAdd_tup (a b : List PyData) : gAdd (.tuple a) (.tuple b) = if a.length + b.length ≤ zBig then some (.tuple (a ++ b)) else none := rfl
def gSubD : PyData → PyData → Option PyData
  | .int a, .int b => some (.int (a - b))
  | _, _ => none
@[simp] theorem gSub_int (a b : Int) : gSubD (.int a) (.int b) = some (.int (a - b)) := rfl
def gMul : PyData → PyData → Option PyData
  | .int a, .int b => if -(2 ^ 64) < a ∧ a < 2 ^ 64 then some (.int (a * b)) else none
  | _, _ => none
@[simp] theorem gMul_int (a b : Int) : gMul (.int a) (.int b) = if -(2 ^ 64) < a ∧ a < 2 ^ 64 then some (.int (a * b)) else none := rfl
def gMod : PyData → PyData → Option PyData
  | .int a, .int b => if 0 < b then some (.int (a % b)) else none
  | _, _ => none
@[simp] theorem gMod_int (a b : Int) : gMod (.int a) (.int b) = if 0 < b then some (.int (a % b)) else none := rfl
def gCmpI (p : Int → Int → Bool) : PyData → PyData → Option PyData
  | .int a, .int b => some (.bool (p a b))
  | _, _ => none
@[simp] theorem gCmpI_int (p : Int → Int → Bool) (a b : Int) : gCmpI p (.int a) (.int b) = some (.bool (p a b)) := rfl
@[simp] def gEq : PyData → PyData → Option PyData := fun a b => if SeqAt.shaped a = true ∧ SeqAt.shaped b = true then some (.bool (PyData.eqv a b)) else none
@[simp] def gNe : PyData → PyData → Option PyData := fun a b => if SeqAt.shaped a = true ∧ SeqAt.shaped b = true then some (.bool (!PyData.eqv a b)) else none
def isNoneD : PyData → Bool
  | .none => true
  | _ => false
@[simp] theorem isNoneD_none : isNoneD .none = true := rfl
@[simp] theorem isNoneD_int (i : Int) : isNoneD (.int i) = false := rfl
@[simp] theorem isNoneD_bool (i : Bool) : isNoneD (.bool i) = false := rfl
@[simp] theorem isNoneD_str (i : Str) : isNoneD (.str i) = false := rfl
@[simp] theorem isNoneD_tup (i : List PyData) : isNoneD (.tuple i) = false := rfl
@[simp] theorem isNoneD_lst (i : List PyData) : isNoneD (.list i) = false := rfl
def gIs : PyData → PyData → Option PyData
  | a, .none => some (.bool (isNoneD a))
  | _, _ => none
@[simp] theorem gIs_none (a : PyData) : gIs a .none = some (.bool (isNoneD a)) := by cases a <;> rfl
def gIsNot : PyData → PyData → Option PyData
  | a, .none => some (.bool (!isNoneD a))
  | _, _ => none
@[simp] theorem gIsNot_none (a : PyData) : gIsNot a .none = some (.bool (!isNoneD a)) := by cases a <;> rfl
def gIn : PyData → PyData → Option PyData
  | d, .tuple xs => if SeqAt.shaped d = true ∧ SeqAt.shaped (.tuple xs) = true then some (.bool (xs.any fun y => PyData.eqv y d)) else none
  | _, _ => none
@[simp] theorem gIn_tup (d : PyData) (xs : List PyData) : gIn d (.tuple xs) = if SeqAt.shaped d = true ∧ SeqAt.shaped (.tuple xs) = true then some (.bool (xs.any fun y => PyData.eqv y d)) else none := by cases d <;> rfl
def gNotIn : PyData → PyData → Option PyData
  | d, .tuple xs => if SeqAt.shaped d = true ∧ SeqAt.shaped (.tuple xs) = true then some (.bool (!xs.any fun y => PyData.eqv y d)) else none
  | _, _ => none
@[simp] theorem gNotIn_tup (d : PyData) (xs : List PyData) : gNotIn d (.tuple xs) = if SeqAt.shaped d = true ∧ SeqAt.shaped (.tuple xs) = true then some (.bool (!xs.any fun y => PyData.eqv y d)) else none := by cases d <;> rfl
/-- a sign in a text -/
def gInS : PyData → PyData → Option PyData
  | .str c, .str z => (match c.cps.toList with
    | [k] => some (.bool (decide (k ∈ z.cps.toList)))
    | _ => none)
  | _, _ => none
@[simp] def gLtD : PyData → PyData → Option PyData := fun a b => if PySem.W.alike a b = true ∧ isNoneD a = false ∧ a.depth ≤ 60 then some (.bool (PySem.W.dataLt a b)) else none

section
variable {K : PySem.W.Frag} {X : Cx}
theorem isNoneD_iff {H : Hp} {x : V} {a : PyData} (h : Dp K H x a) : decide (x = V.non) = isNoneD a := by
  cases h <;> rfl
abbrev rAddAll (K : PySem.W.Frag) : R2 := fun x y H Q => rI0 (fun i j => V.int (i + j)) x y H Q ∨ ((rCatA K) x y H Q ∨ (fun x y H Q => ∃ i j, x = V.str i ∧ y = V.str j ∧ i.length + j.length ≤ sizeLine ∧ Q (V.str (i ++ j)) H : R2) x y H Q)
theorem op_addAll : OpR X (binaryOp .Add) (rAddAll X.K) := op_add.or (op_catA.or op_add_str)
theorem ov_add : OpD K (rAddAll K) gAdd := by
  intro x y a b d H Q ha hb e q
  cases ha <;> cases hb <;> first | (cases e; done) | skip
  · cases e
    exact .inl ⟨_, _, rfl, rfl, q _ H (Same.refl H) (.int _)⟩
  · rename_i s t
    have e1 : (if s.length + t.length ≤ zBig then some (PyData.str (s ++ t)) else none) = some d := e
    split at e1
    · rename_i hz
      cases e1
      exact .inr (.inr ⟨_, _, rfl, rfl, zBig_le hz, q _ H (Same.refl H) (.str _)⟩)
    · cases e1
  · rename_i p xs ds hx dx p2 ys es hy dy
    have e1 : (if ds.length + es.length ≤ zBig then some (PyData.tuple (ds ++ es)) else none) = some d := e
    split at e1
    · rename_i hz
      cases e1
      refine .inr (.inl ⟨p, p2, xs, ys, rfl, rfl, hx, hy, zBig_le (by rw [dx.length, dy.length]; exact hz), fun e0 => ?_, fun _ e0 => ?_, fun _ _ r hr => ?_⟩)
      · subst e0
        cases dx
        exact q _ H (Same.refl H) (.tup hy dy)
      · subst e0
        cases dy
        rw [List.append_nil] at q
        exact q _ H (Same.refl H) (.tup hx dx)
      · refine q _ _ (Same.new hr) (.tup (SqT.of upd_same) ?_)
        exact (dx.append dy).same (Same.new hr)
    · cases e1
theorem ov_sub : OpD K (rI0 fun i j => .int (i - j)) gSubD := by
  intro x y a b d H Q ha hb e q
  cases ha <;> cases hb <;> first | (cases e; done) | skip
  cases e
  exact ⟨_, _, rfl, rfl, q _ H (Same.refl H) (.int _)⟩
theorem ov_mul : OpD K (rI CMul fun i j => .int (i * j)) gMul := by
  intro x y a b d H Q ha hb e q
  cases ha <;> cases hb <;> first | (cases e; done) | skip
  rename_i i j
  have e1 : (if -(2 ^ 64) < i ∧ i < 2 ^ 64 then some (PyData.int (i * j)) else none) = some d := e
  split at e1
  · rename_i hz
    cases e1
    exact ⟨_, _, rfl, rfl, .inl hz, q _ H (Same.refl H) (.int _)⟩
  · cases e1
theorem ov_mod : OpD K (rI (fun _ j => 0 < j) fun i j => .int (i % j)) gMod := by
  intro x y a b d H Q ha hb e q
  cases ha <;> cases hb <;> first | (cases e; done) | skip
  rename_i i j
  have e1 : (if 0 < j then some (PyData.int (i % j)) else none) = some d := e
  split at e1
  · rename_i hz
    cases e1
    exact ⟨_, _, rfl, rfl, hz, q _ H (Same.refl H) (.int _)⟩
  · cases e1
theorem ov_cmpI (p : Int → Int → Bool) : OpD K (rI0 fun i j => .bl (p i j)) (gCmpI p) := by
  intro x y a b d H Q ha hb e q
  cases ha <;> cases hb <;> first | (cases e; done) | skip
  cases e
  exact ⟨_, _, rfl, rfl, q _ H (Same.refl H) (.bl _)⟩
theorem ov_eq : OpD K (rEqD K) gEq := by
  intro x y a b d H Q ha hb e q
  have e1 : (if SeqAt.shaped a = true ∧ SeqAt.shaped b = true then some (PyData.bool (PyData.eqv a b)) else none) = some d := e
  split at e1
  · rename_i hz
    cases e1
    exact ⟨_, _, ha, hb, hz.1, hz.2, q _ H (Same.refl H) (.bl _)⟩
  · cases e1
theorem ov_ne : OpD K (rNeD K) gNe := by
  intro x y a b d H Q ha hb e q
  have e1 : (if SeqAt.shaped a = true ∧ SeqAt.shaped b = true then some (PyData.bool (!PyData.eqv a b)) else none) = some d := e
  split at e1
  · rename_i hz
    cases e1
    exact ⟨_, _, ha, hb, hz.1, hz.2, q _ H (Same.refl H) (.bl _)⟩
  · cases e1
abbrev rIsN : R2 := fun x y H Q => y = V.non ∧ Q (.bl (decide (x = V.non))) H
abbrev rIsNotN : R2 := fun x y H Q => y = V.non ∧ Q (.bl (!decide (x = V.non))) H
theorem ov_is : OpD K rIsN gIs := by
  intro x y a b d H Q ha hb e q
  cases hb <;> first | (cases a <;> cases e; done) | skip
  have e1 : some (PyData.bool (isNoneD a)) = some d := by cases a <;> exact e
  cases e1
  refine ⟨rfl, ?_⟩
  rw [isNoneD_iff ha]
  exact q _ H (Same.refl H) (.bl _)
theorem ov_isnot : OpD K rIsNotN gIsNot := by
  intro x y a b d H Q ha hb e q
  cases hb <;> first | (cases a <;> cases e; done) | skip
  have e1 : some (PyData.bool (!isNoneD a)) = some d := by cases a <;> exact e
  cases e1
  refine ⟨rfl, ?_⟩
  rw [isNoneD_iff ha]
  exact q _ H (Same.refl H) (.bl _)
/-- x in a tuple of data -/
def rInT (K : PySem.W.Frag) : R2 := fun x y H Q => ∃ d ds, Dp K H x d ∧ Dp K H y (.tuple ds) ∧ SeqAt.shaped d = true ∧ SeqAt.shaped (.tuple ds) = true ∧ Q (.bl (ds.any fun z => PyData.eqv z d)) H
def rNotInT (K : PySem.W.Frag) : R2 := fun x y H Q => ∃ d ds, Dp K H x d ∧ Dp K H y (.tuple ds) ∧ SeqAt.shaped d = true ∧ SeqAt.shaped (.tuple ds) = true ∧ Q (.bl (!ds.any fun z => PyData.eqv z d)) H
theorem shaped_room {A : Around} {d : PyData} {ds : List PyData} (h : SeqAt.shaped d = true) (hu : A.units + 66 < cLine) : A.units + 1 + min (PyData.depthAll ds) d.depth < cLine := by
  have h1 := SeqAt.depth_of_shaped h
  have h2 : min (PyData.depthAll ds) d.depth ≤ d.depth := Nat.min_le_right _ _
  omega
theorem op_inT (hu : X.A.units + 66 < cLine) : OpR X (compareOp .In) (rInT X.K) := by
  intro pins s σ H x y v u Q I rx ry h
  obtain ⟨d, ds, hd, he, h1, h2, q⟩ := h
  obtain ⟨as, r1⟩ := Dp.reads I d x v hd rx
  obtain ⟨bs, r2⟩ := Dp.reads I (.tuple ds) y u he ry
  exact SeqAt.in_tuple_reads r2 r1 (SeqAt.canLay_of_shaped h2) (SeqAt.canLay_of_shaped h1) (shaped_room h1 hu) ⟨.bl _, H, I, rfl, q⟩
theorem op_notInT (hu : X.A.units + 66 < cLine) : OpR X (compareOp .NotIn) (rNotInT X.K) := by
  intro pins s σ H x y v u Q I rx ry h
  obtain ⟨d, ds, hd, he, h1, h2, q⟩ := h
  obtain ⟨as, r1⟩ := Dp.reads I d x v hd rx
  obtain ⟨bs, r2⟩ := Dp.reads I (.tuple ds) y u he ry
  exact SeqAt.notIn_tuple_reads r2 r1 (SeqAt.canLay_of_shaped h2) (SeqAt.canLay_of_shaped h1) (shaped_room h1 hu) ⟨.bl _, H, I, rfl, q⟩
theorem ov_in : OpD K (rInT K) gIn := by
  intro x y a b d H Q ha hb e q
  cases hb <;> first | (cases a <;> cases e; done) | skip
  rename_i p xs ds hx dx
  have e1 : (if SeqAt.shaped a = true ∧ SeqAt.shaped (.tuple ds) = true then some (PyData.bool (ds.any fun y => PyData.eqv y a)) else none) = some d := by cases a <;> exact e
  split at e1
  · rename_i hz
    cases e1
    exact ⟨_, _, ha, .tup hx dx, hz.1, hz.2, q _ H (Same.refl H) (.bl _)⟩
  · cases e1
theorem ov_notIn : OpD K (rNotInT K) gNotIn := by
  intro x y a b d H Q ha hb e q
  cases hb <;> first | (cases a <;> cases e; done) | skip
  rename_i p xs ds hx dx
  have e1 : (if SeqAt.shaped a = true ∧ SeqAt.shaped (.tuple ds) = true then some (PyData.bool (!ds.any fun y => PyData.eqv y a)) else none) = some d := by cases a <;> exact e
  split at e1
  · rename_i hz
    cases e1
    exact ⟨_, _, ha, .tup hx dx, hz.1, hz.2, q _ H (Same.refl H) (.bl _)⟩
  · cases e1
/-- x < y, data of one shape -/
def rLtD (K : PySem.W.Frag) : R2 := fun x y H Q => ∃ d e, Dp K H x d ∧ Dp K H y e ∧ PySem.W.alike d e = true ∧ isNoneD d = false ∧ d.depth ≤ 60 ∧ Q (.bl (PySem.W.dataLt d e)) H
theorem op_ltD (hu : X.A.units + 64 < cLine) : OpR X (compareOp .Lt) (rLtD X.K) := by
  intro pins s σ H x y v u Q I rx ry h
  obtain ⟨d, e, hd, he, h1, h2, h3, q⟩ := h
  obtain ⟨as, r1⟩ := Dp.reads I d x v hd rx
  obtain ⟨bs, r2⟩ := Dp.reads I e y u he ry
  have hm : min d.depth e.depth ≤ d.depth := Nat.min_le_left _ _
  exact PySem.W.rcLt_alike d e X.A s v u as bs r1 r2 h1 (fun z => by subst z; cases h2) (by omega) _ _ _ _ ⟨.bl _, H, I, rfl, q⟩
theorem ov_lt : OpD K (rLtD K) gLtD := by
  intro x y a b d H Q ha hb e q
  have e1 : (if PySem.W.alike a b = true ∧ isNoneD a = false ∧ a.depth ≤ 60 then some (PyData.bool (PySem.W.dataLt a b)) else none) = some d := e
  split at e1
  · rename_i hz
    cases e1
    exact ⟨_, _, ha, hb, hz.1, hz.2.1, hz.2.2, q _ H (Same.refl H) (.bl _)⟩
  · cases e1
end
end L2
set_option maxHeartbeats 4000000
/-! PdC: control, displays, subscripts, calls, statements over plain data. -/
namespace L2
open PySem PySem.Spec PyProof.Rows
section
variable {K : PySem.W.Frag} {X : Cx} {e e2 e3 : Expr} {es rest : List Expr} {pos : Pos} {f g h : DE → Option PyData} {c c2 : DE → Option Bool}

/-! ### and, or, not, if -/
def condB {β : Type} (x : PyData) (t e : Option β) : Option β := match x with
  | .bool b => if b = true then t else e
  | _ => none
@[simp] theorem condB_bool {β : Type} (b : Bool) (t e : Option β) : condB (.bool b) t e = if b = true then t else e := rfl
@[simp] def fAnd (fa fb : DE → Option PyData) : DE → Option PyData := fun ρ => (fa ρ).bind fun x => condB x (fb ρ) (some (.bool false))
@[simp] def fOr (fa fb : DE → Option PyData) : DE → Option PyData := fun ρ => (fa ρ).bind fun x => condB x (some (.bool true)) (fb ρ)
@[simp] def fNot (fa : DE → Option PyData) : DE → Option PyData := fun ρ => (fa ρ).bind fun x => (asB x).map fun b => .bool (!b)
theorem d_and (ha : PE X e (tD X.K f)) (hb : PE X (.BoolOp .And (e2 :: rest) pos) (tD X.K g)) : PE X (.BoolOp .And (e :: e2 :: rest) pos) (tD X.K (fAnd f g)) := (pe_and ha hb).imp fun σ H Q ⟨ρ, d, he, hf, q⟩ => by
  obtain ⟨x, h1, h2⟩ := Option.bind_eq_some_iff.mp hf
  refine ⟨ρ, x, he, h1, fun v H1 s1 d1 => ?_⟩
  cases d1 <;> first | (cases h2; done) | skip
  rename_i b
  refine ⟨b, rfl, ?_⟩
  cases b with
  | true => exact ⟨ρ, d, he.same s1, h2, fun u H2 s2 d2 => q u H2 (s1.trans s2) d2⟩
  | false =>
    cases h2
    exact q _ H1 s1 (.bl _)
theorem d_or (ha : PE X e (tD X.K f)) (hb : PE X (.BoolOp .Or (e2 :: rest) pos) (tD X.K g)) : PE X (.BoolOp .Or (e :: e2 :: rest) pos) (tD X.K (fOr f g)) := (pe_or ha hb).imp fun σ H Q ⟨ρ, d, he, hf, q⟩ => by
  obtain ⟨x, h1, h2⟩ := Option.bind_eq_some_iff.mp hf
  refine ⟨ρ, x, he, h1, fun v H1 s1 d1 => ?_⟩
  cases d1 <;> first | (cases h2; done) | skip
  rename_i b
  refine ⟨b, rfl, ?_⟩
  cases b with
  | false => exact ⟨ρ, d, he.same s1, h2, fun u H2 s2 d2 => q u H2 (s1.trans s2) d2⟩
  | true =>
    cases h2
    exact q _ H1 s1 (.bl _)
theorem d_not (ha : PE X e (tD X.K f)) : PE X (.UnaryOp .Not e pos) (tD X.K (fNot f)) := (pe_not ha).imp fun σ H Q ⟨ρ, d, he, hf, q⟩ => by
  obtain ⟨x, h1, h2⟩ := Option.bind_eq_some_iff.mp hf
  refine ⟨ρ, x, he, h1, fun v H1 s1 d1 => ?_⟩
  cases d1 <;> first | (cases h2; done) | skip
  cases h2
  exact ⟨_, rfl, q _ H1 s1 (.bl _)⟩
@[simp] def fAndT (c c2 : DE → Option Bool) : DE → Option Bool := fun ρ => (c ρ).bind fun b => if b = true then c2 ρ else some false
@[simp] def fOrT (c c2 : DE → Option Bool) : DE → Option Bool := fun ρ => (c ρ).bind fun b => if b = true then some true else c2 ρ
@[simp] def fNotT (c : DE → Option Bool) : DE → Option Bool := fun ρ => (c ρ).map (!·)
theorem w_and1 (h : PT X e (tDT X.K c)) : PW X (.BoolOp .And [e] pos) (tDT X.K c) := pw_and1 h
theorem w_or1 (h : PT X e (tDT X.K c)) : PW X (.BoolOp .Or [e] pos) (tDT X.K c) := pw_or1 h
theorem w_and (ha : PT X e (tDT X.K c)) (hb : PW X (.BoolOp .And (e2 :: rest) pos) (tDT X.K c2)) : PW X (.BoolOp .And (e :: e2 :: rest) pos) (tDT X.K (fAndT c c2)) := (pw_and ha hb).imp fun σ H Q ⟨ρ, d, he, hf, q⟩ => by
  obtain ⟨b, h1, h2⟩ := Option.bind_eq_some_iff.mp hf
  refine ⟨ρ, b, he, h1, fun H1 s1 => ?_⟩
  cases b with
  | true =>
    rw [if_pos rfl] at h2 ⊢
    exact ⟨ρ, d, he.same s1, h2, fun H2 s2 => q H2 (s1.trans s2)⟩
  | false =>
    rw [if_neg Bool.false_ne_true] at h2 ⊢
    cases h2
    exact q H1 s1
theorem w_or (ha : PT X e (tDT X.K c)) (hb : PW X (.BoolOp .Or (e2 :: rest) pos) (tDT X.K c2)) : PW X (.BoolOp .Or (e :: e2 :: rest) pos) (tDT X.K (fOrT c c2)) := (pw_or ha hb).imp fun σ H Q ⟨ρ, d, he, hf, q⟩ => by
  obtain ⟨b, h1, h2⟩ := Option.bind_eq_some_iff.mp hf
  refine ⟨ρ, b, he, h1, fun H1 s1 => ?_⟩
  cases b with
  | true =>
    rw [if_pos rfl] at h2 ⊢
    cases h2
    exact q H1 s1
  | false =>
    rw [if_neg Bool.false_ne_true] at h2 ⊢
    exact ⟨ρ, d, he.same s1, h2, fun H2 s2 => q H2 (s1.trans s2)⟩
theorem t_not (ha : PT X e (tDT X.K c)) : PT X (.UnaryOp .Not e pos) (tDT X.K (fNotT c)) := (pt_not ha).imp fun σ H Q ⟨ρ, d, he, hf, q⟩ => by
  obtain ⟨b, h1, rfl⟩ := Option.map_eq_some_iff.mp hf
  exact ⟨ρ, b, he, h1, q⟩
@[simp] def fIf (c : DE → Option Bool) (f g : DE → Option PyData) : DE → Option PyData := fun ρ => (c ρ).bind fun b => if b = true then f ρ else g ρ
theorem d_if (hc : PT X e (tDT X.K c)) (ha : PE X e2 (tD X.K f)) (hb : PE X e3 (tD X.K g)) : PE X (.IfExp e e2 e3 pos) (tD X.K (fIf c f g)) := (pe_ifExp hc ha hb).imp fun σ H Q ⟨ρ, d, he, hf, q⟩ => by
  obtain ⟨b, h1, h2⟩ := Option.bind_eq_some_iff.mp hf
  refine ⟨ρ, b, he, h1, fun H1 s1 => ?_⟩
  cases b with
  | true =>
    rw [if_pos rfl] at h2 ⊢
    exact ⟨ρ, d, he.same s1, h2, fun u H2 s2 d2 => q u H2 (s1.trans s2) d2⟩
  | false =>
    rw [if_neg Bool.false_ne_true] at h2 ⊢
    exact ⟨ρ, d, he.same s1, h2, fun u H2 s2 d2 => q u H2 (s1.trans s2) d2⟩

/-! ### displays -/
@[simp] def fNil : DE → Option (List PyData) := fun _ => some []
@[simp] def fCons (f : DE → Option PyData) (fs : DE → Option (List PyData)) : DE → Option (List PyData) := fun ρ => (f ρ).bind fun x => (fs ρ).map fun xs => x :: xs
variable {fs : DE → Option (List PyData)}
theorem da_nil : PA X [] (tDA X.K fNil) := PA.imp pa_nil fun σ H Q ⟨ρ, d, he, hf, q⟩ => by
  cases hf
  exact q [] H (Same.refl H) .nil
theorem da_cons (ha : PE X e (tD X.K f)) (hr : PA X es (tDA X.K fs)) (hs : starEach (e :: es) X.env = (false, eval e X.env) :: starEach es X.env := by rfl) : PA X (e :: es) (tDA X.K (fCons f fs)) := PA.imp (pa_cons ha hr hs) fun σ H Q ⟨ρ, d, he, hf, q⟩ => by
  obtain ⟨x, h1, h2⟩ := Option.bind_eq_some_iff.mp hf
  obtain ⟨xs, h3, rfl⟩ := Option.map_eq_some_iff.mp h2
  exact ⟨ρ, x, he, h1, fun v H1 s1 d1 => ⟨ρ, xs, he.same s1, h3, fun vs H2 s2 d2 => q _ H2 (s1.trans s2) (.cons (d1.same s2) d2)⟩⟩
@[simp] def fTup (fs : DE → Option (List PyData)) : DE → Option PyData := fun ρ => (fs ρ).bind fun xs => if xs.length ≤ zBig then some (.tuple xs) else none
@[simp] def fLst (fs : DE → Option (List PyData)) : DE → Option PyData := fun ρ => (fs ρ).bind fun xs => if xs.length ≤ zBig then some (.list xs) else none
theorem d_tup {x1} (h : PA X es (tDA X.K fs)) : PE X (.Tuple es x1 pos) (tD X.K (fTup fs)) := (pe_tup h).imp fun σ H Q ⟨ρ, d, he, hf, q⟩ => by
  obtain ⟨xs, h1, h2⟩ := Option.bind_eq_some_iff.mp hf
  split at h2
  · rename_i hz
    cases h2
    exact ⟨ρ, xs, he, h1, fun vs H1 s1 d1 => ⟨zBig_le (by rw [d1.length]; exact hz), fun p hp => q _ _ (s1.trans (Same.new hp)) (.tup (SqT.of upd_same) (d1.same (Same.new hp)))⟩⟩
  · cases h2
theorem d_lst (h : PA X es (tDA X.K fs)) : PE X (.List es pos) (tD X.K (fLst fs)) := (pe_lst h).imp fun σ H Q ⟨ρ, d, he, hf, q⟩ => by
  obtain ⟨xs, h1, h2⟩ := Option.bind_eq_some_iff.mp hf
  split at h2
  · rename_i hz
    cases h2
    exact ⟨ρ, xs, he, h1, fun vs H1 s1 d1 => ⟨zBig_le (by rw [d1.length]; exact hz), fun p hp => q _ _ (s1.trans (Same.new hp)) (.lst (SqL.of upd_same) (d1.same (Same.new hp)))⟩⟩
  · cases h2

/-! ### subscripts -/
def gIx : PyData → PyData → Option PyData
  | .tuple xs, .int i => atI xs i
  | .list xs, .int i => atI xs i
  | _, _ => none
@[simp] theorem gIx_tup (xs : List PyData) (i : Int) : gIx (.tuple xs) (.int i) = atI xs i := rfl
@[simp] theorem gIx_lst (xs : List PyData) (i : Int) : gIx (.list xs) (.int i) = atI xs i := rfl
theorem DpAll.atI {H : Hp} {vs : List V} {ds : List PyData} {i : Int} {d : PyData} (h : DpAll K H vs ds) (e : L2.atI ds i = some d) : ∃ v, L2.atI vs i = some v ∧ Dp K H v d := by
  unfold L2.atI at e ⊢
  rw [h.length]
  obtain ⟨j, h1, h2⟩ := Option.bind_eq_some_iff.mp e
  obtain ⟨v, h3, h4⟩ := h.get h2
  exact ⟨v, by rw [h1]; exact h3, h4⟩
theorem d_ix (ha : PE X e (tD X.K f)) (hb : PE X e2 (tD X.K g)) (hs : PlainIx e2 := by exact fun _ _ => rfl) : PE X (.Subscript e e2 pos) (tD X.K (f2 gIx f g)) := (pe_ix ix_seq ha hb hs).imp fun σ H Q hq => op_run (r := rIx X.K) (fun x y a b d H Q dx dy e q => by
  cases dy <;> first | (cases a <;> cases e; done) | skip
  rename_i i
  cases dx <;> first | (cases e; done) | skip
  · rename_i p xs ds hx dx
    obtain ⟨v, h1, h2⟩ := dx.atI (show atI ds i = some d from e)
    exact .inl ⟨p, xs, i, v, rfl, rfl, hx, h1, q v H (Same.refl H) h2⟩
  · rename_i p xs ds hx dx
    obtain ⟨v, h1, h2⟩ := dx.atI (show atI ds i = some d from e)
    exact .inr (.inl ⟨p, xs, i, v, rfl, rfl, hx, h1, q v H (Same.refl H) h2⟩)) hq
def cutP (xs : List PyData) (lo hi : Option Int) : List PyData := (xs.drop (HT.sIx xs.length 0 lo)).take (HT.sIx xs.length xs.length hi - HT.sIx xs.length 0 lo)
theorem DpAll.cut {H : Hp} {vs : List V} {ds : List PyData} (h : DpAll K H vs ds) (lo hi : Option Int) : DpAll K H (cutV vs lo hi) (cutP ds lo hi) := by
  unfold cutV cutP
  rw [h.length]
  exact (h.drop _).take _
def gSl : PyData → Option Int → Option Int → Option PyData
  | .tuple xs, lo, hi => some (.tuple (cutP xs lo hi))
  | .list xs, lo, hi => some (.list (cutP xs lo hi))
  | _, _, _ => none
@[simp] theorem gSl_tup (xs : List PyData) (l u : Option Int) : gSl (.tuple xs) l u = some (.tuple (cutP xs l u)) := rfl
@[simp] theorem gSl_lst (xs : List PyData) (l u : Option Int) : gSl (.list xs) l u = some (.list (cutP xs l u)) := rfl
def tDO (K : PySem.W.Frag) (f : DE → Option (Option Int)) : TO := fun σ H Q => ∃ ρ o, EnvD K H σ ρ ∧ f ρ = some o ∧ ∀ H', Same H H' → Q o H'
def asI : PyData → Option (Option Int)
  | .int i => some (some i)
  | _ => none
@[simp] theorem asI_int (i : Int) : asI (.int i) = some (some i) := rfl
@[simp] def fPart (f : DE → Option PyData) : DE → Option (Option Int) := fun ρ => (f ρ).bind asI
@[simp] def fNoPart : DE → Option (Option Int) := fun _ => some none
theorem PO.imp {o : Option Expr} {t t' : TO} (h : PO X o t) (i : ∀ σ H Q, t' σ H Q → t σ H Q) : PO X o t' := ⟨fun pins s σ H Q I hw => h.run pins s σ H Q I (i σ H Q hw)⟩
theorem do_none : PO X none (tDO X.K fNoPart) := PO.imp po_none fun σ H Q ⟨ρ, d, he, hf, q⟩ => by
  cases hf
  exact q H (Same.refl H)
theorem do_some (ha : PE X e (tD X.K f)) : PO X (some e) (tDO X.K (fPart f)) := PO.imp (po_some ha) fun σ H Q ⟨ρ, d, he, hf, q⟩ => by
  obtain ⟨x, h1, h2⟩ := Option.bind_eq_some_iff.mp hf
  refine ⟨ρ, x, he, h1, fun v H1 s1 d1 => ?_⟩
  cases d1 <;> first | (cases h2; done) | skip
  cases h2
  exact ⟨_, rfl, q H1 s1⟩
@[simp] def fSl (f : DE → Option PyData) (lo hi : DE → Option (Option Int)) : DE → Option PyData := fun ρ => (f ρ).bind fun x => (lo ρ).bind fun l => (hi ρ).bind fun u => gSl x l u
theorem d_slice {lo hi : Option Expr} {fl fh : DE → Option (Option Int)} {p2 : Pos} (ha : PE X e (tD X.K f)) (hl : PO X lo (tDO X.K fl)) (hh : PO X hi (tDO X.K fh)) : PE X (.Subscript e (.Slice lo hi none p2) pos) (tD X.K (fSl f fl fh)) :=
  (pe_slice (sl_tupA.or sl_list) ha hl hh).imp fun σ H Q ⟨ρ, d, he, hf, q⟩ => by
    obtain ⟨x, h1, h2⟩ := Option.bind_eq_some_iff.mp hf
    obtain ⟨l, h3, h4⟩ := Option.bind_eq_some_iff.mp h2
    obtain ⟨u, h5, h6⟩ := Option.bind_eq_some_iff.mp h4
    refine ⟨ρ, x, he, h1, fun v H1 s1 d1 => ⟨ρ, l, he.same s1, h3, fun H2 s2 => ⟨ρ, u, he.same (s1.trans s2), h5, fun H3 s3 => ?_⟩⟩⟩
    have d3 := d1.same (s2.trans s3)
    have s13 := (s1.trans s2).trans s3
    cases d3 <;> first | (cases h6; done) | skip
    · rename_i p xs ds hx dx
      cases h6
      refine .inr ⟨p, xs, rfl, hx, fun r hr => q _ _ (s13.trans (Same.new hr)) (.lst (SqL.of upd_same) ((dx.cut l u).same (Same.new hr)))⟩
    · rename_i p xs ds hx dx
      cases h6
      refine .inl ⟨p, xs, rfl, hx, fun hw => ?_, fun _ r hr => q _ _ (s13.trans (Same.new hr)) (.tup (SqT.of upd_same) ((dx.cut l u).same (Same.new hr)))⟩
      rw [dx.length] at hw
      have e0 : cutP ds l u = ds := by
        unfold cutP
        rw [hw.1, hw.2]
        simp
      rw [e0] at q
      exact q _ H3 s13 (.tup hx dx)

/-! ### built-ins -/
def CD (K : PySem.W.Frag) (r : List V → Hp → VK → Prop) (g : List PyData → Option PyData) : Prop := ∀ vs ds d H (Q : VK), DpAll K H vs ds → g ds = some d → (∀ v H', Same H H' → Dp K H' v d → Q v H') → r vs H Q
@[simp] def fCall (g : List PyData → Option PyData) (fs : DE → Option (List PyData)) : DE → Option PyData := fun ρ => (fs ρ).bind g
theorem call_run {r : List V → Hp → VK → Prop} {g : List PyData → Option PyData} (c : CD K r g) {σ : St} {H : Hp} {Q : VK} (h : tD K (fCall g fs) σ H Q) : tCB r (tDA K fs) σ H Q := by
  obtain ⟨ρ, d, he, hf, q⟩ := h
  obtain ⟨ds, h1, h2⟩ := Option.bind_eq_some_iff.mp hf
  exact ⟨ρ, ds, he, h1, fun vs H1 s1 d1 => c vs ds d H1 Q d1 h2 fun v H2 s2 d2 => q v H2 (s1.trans s2) d2⟩
theorem d_callB {id : String} {x : Str} {p : Pos} {r : List V → Hp → VK → Prop} {gg : List PyData → Option PyData} (c : CD X.K r gg) (hc : CallR X (.builtin id) r) (hm : X.mg x = none) (ha : PA X (e :: es) (tDA X.K fs))
    (hg : Gl X x := by rfl) (hv : bootBuiltins x = some (.builtin id) := by decide +kernel) (hn : x ≠ "__name__" := by decide) (hdb : (x == ("__debug__" : Str)) = false := by decide) (he : starEach (e :: es) X.env = (false, eval e X.env) :: starEach es X.env := by rfl) (hpl : (backTo pos (starEach es X.env)).any (·.1) = false := by rfl) :
    PE X (.Call (.Name x p) (e :: es) [] pos) (tD X.K (fCall gg fs)) := (pe_callB hc hg hm hv ha hn hdb he hpl).imp fun _ _ _ h => call_run c h
theorem d_callTy {T : String} {x : Str} {p : Pos} {r : List V → Hp → VK → Prop} {gg : List PyData → Option PyData} (c : CD X.K r gg) (hc : CallR X (.type T) r) (hm : X.mg x = none) (ha : PA X (e :: es) (tDA X.K fs))
    (hg : Gl X x := by rfl) (hv : bootBuiltins x = some (.type T) := by decide +kernel) (hn : x ≠ "__name__" := by decide) (hdb : (x == ("__debug__" : Str)) = false := by decide) (he : starEach (e :: es) X.env = (false, eval e X.env) :: starEach es X.env := by rfl) (hpl : (backTo pos (starEach es X.env)).any (·.1) = false := by rfl) :
    PE X (.Call (.Name x p) (e :: es) [] pos) (tD X.K (fCall gg fs)) := (pe_callTy hc hg hm hv ha hn hdb he hpl).imp fun _ _ _ h => call_run c h
/-- a def of the module that is a function of data -/
def spD (n : Nat) (g : List PyData → Option PyData) (K : PySem.W.Frag) : Sp := fun vs H Q _ => vs.length = n ∧ ∃ ds d, DpAll K H vs ds ∧ g ds = some d ∧ ∀ v H', Same H H' → Dp K H' v d → Q v H'
end
end L2
set_option maxHeartbeats 4000000
/-! PdD: statements and defs over plain data; the built-ins' own rules. -/
namespace L2
open PySem PySem.Spec PyProof.Rows
section
variable {K : PySem.W.Frag} {X : Cx} {e e2 e3 : Expr} {es rest : List Expr} {pos : Pos} {f g h : DE → Option PyData} {c c2 : DE → Option Bool} {fs : DE → Option (List PyData)}

/-! ### the built-ins' places -/
theorem bt_int : bootBuiltins "int" = some (.type "int") := by decide +kernel
theorem bt_str : bootBuiltins "str" = some (.type "str") := by decide +kernel
theorem bt_tuple : bootBuiltins "tuple" = some (.type "tuple") := by decide +kernel
theorem bt_list : bootBuiltins "list" = some (.type "list") := by decide +kernel
theorem bt_bool : bootBuiltins "bool" = some (.type "bool") := by decide +kernel
theorem bt_dict : bootBuiltins "dict" = some (.type "dict") := by decide +kernel
theorem bt_isinstance : bootBuiltins "isinstance" = some (.builtin "isinstance") := by decide +kernel
theorem bt_len : bootBuiltins "len" = some (.builtin "len") := by decide +kernel
theorem bt_sum : bootBuiltins "sum" = some (.builtin "sum") := by decide +kernel
theorem bt_min : bootBuiltins "min" = some (.builtin "min") := by decide +kernel
theorem bt_max : bootBuiltins "max" = some (.builtin "max") := by decide +kernel
theorem bt_all : bootBuiltins "all" = some (.builtin "all") := by decide +kernel
theorem bt_sorted : bootBuiltins "sorted" = some (.builtin "sorted") := by decide +kernel
theorem bt_repr : bootBuiltins "repr" = some (.builtin "repr") := by decide +kernel

/-! ### defs that are functions of data -/
def spF (gg : List PyData → Option PyData) (K : PySem.W.Frag) : Sp := fun vs H Q _ => ∃ ds d, DpAll K H vs ds ∧ gg ds = some d ∧ ∀ v H', Same H H' → Dp K H' v d → Q v H'
/-- at the module's name x stands a def that is the function gg -/
structure FnD (P : Program) (w : World) (K : PySem.W.Frag) (mg : Str → Option Value) (base : Heap) (k : Nat) (x : Str) (gg : List PyData → Option PyData) : Prop where
  ex : ∃ (a : Addr) (fd : FuncData) (ps : List Str), mg x = some (.ref a) ∧ PySem.W.keepIn K (.ref a) = true ∧ Binds K fd ps [] ∧ FnOk P w K mg base CX0 k a fd ps (spF gg K)
theorem d_call {k : Nat} {x : Str} {p : Pos} {gg : List PyData → Option PyData} (F : FnD X.prog X.w X.K X.mg X.base k x gg) (hr : Room k X.A) (ha : PA X (e :: es) (tDA X.K fs)) (hg : Gl X x := by rfl) (hdb : (x == ("__debug__" : Str)) = false := by decide)
    (he : starEach (e :: es) X.env = (false, eval e X.env) :: starEach es X.env := by rfl) (hpl : (backTo pos (starEach es X.env)).any (·.1) = false := by rfl) : PE X (.Call (.Name x p) (e :: es) [] pos) (tD X.K (fCall gg fs)) := by
  obtain ⟨a, fd, ps, hm, hk, hb, G⟩ := F.ex
  refine (pe_call G hr hg hm hk hb .nil pass0 ha hdb he hpl).imp fun σ H Q ⟨ρ, d, hen, hf, q⟩ => ?_
  obtain ⟨ds, h1, h2⟩ := Option.bind_eq_some_iff.mp hf
  refine ⟨ρ, ds, hen, h1, fun vs H1 s1 d1 => ?_⟩
  show spF gg X.K (vs ++ []) H1 Q E0
  rw [List.append_nil]
  exact ⟨ds, d, d1, h2, fun v H2 s2 d2 => q v H2 (s1.trans s2) d2⟩

/-! ### the built-ins' rules -/
def gLen : List PyData → Option PyData
  | [.tuple xs] => some (.int xs.length)
  | [.list xs] => some (.int xs.length)
  | [.str z] => if z.length ≤ zBig then some (.int z.length) else none
  | _ => none
@[simp] theorem gLen_tup (xs : List PyData) : gLen [.tuple xs] = some (.int xs.length) := rfl
@[simp] theorem gLen_lst (xs : List PyData) : gLen [.list xs] = some (.int xs.length) := rfl
@[simp] theorem gLen_str (z : Str) : gLen [.str z] = if z.length ≤ zBig then some (.int z.length) else none := rfl
abbrev rLenD (K : PySem.W.Frag) : List V → Hp → VK → Prop := fun xs H Q => (∃ p ys, xs = [V.ref p] ∧ (SqL K H p ys ∨ SqT K H p ys) ∧ Q (.int ys.length) H) ∨ (∃ z, xs = [V.str z] ∧ z.length ≤ sizeLine ∧ Q (.int z.length) H)
theorem call_lenP : CallR X (.builtin "len") (rLenD X.K) := call_len_seq.or call_len_str
theorem cv_len : CD K (rLenD K) gLen := by
  intro vs ds d H Q hd e q
  cases hd with
  | nil => cases e
  | cons h1 h2 =>
    cases h2 with
    | cons _ _ => cases h1 <;> cases e
    | nil =>
      cases h1 <;> first | (cases e; done) | skip
      · rename_i z
        have e1 : (if z.length ≤ zBig then some (PyData.int z.length) else none) = some d := e
        split at e1
        · rename_i hz
          cases e1
          exact .inr ⟨z, rfl, zBig_le hz, q _ H (Same.refl H) (.int _)⟩
        · cases e1
      · rename_i p xs ds hx dx
        cases e
        exact .inl ⟨p, xs, rfl, .inl hx, by rw [dx.length]; exact q _ H (Same.refl H) (.int _)⟩
      · rename_i p xs ds hx dx
        cases e
        exact .inl ⟨p, xs, rfl, .inr hx, by rw [dx.length]; exact q _ H (Same.refl H) (.int _)⟩
def intsOf : List PyData → Option (List Int)
  | [] => some []
  | .int i :: r => (intsOf r).map (i :: ·)
  | _ :: _ => none
@[simp] theorem intsOf_map (ns : List Int) : intsOf (ns.map PyData.int) = some ns := by
  induction ns with
  | nil => rfl
  | cons a r ih => simp [intsOf, ih]
theorem intsOf_some : ∀ {ds : List PyData} {ns : List Int}, intsOf ds = some ns → ds = ns.map PyData.int
  | [], ns, h => by cases h; rfl
  | .int i :: r, ns, h => by
    unfold intsOf at h
    obtain ⟨m, h1, rfl⟩ := Option.map_eq_some_iff.mp h
    rw [intsOf_some h1]
    rfl
  | .none :: _, _, h => by cases h
  | .bool _ :: _, _, h => by cases h
  | .str _ :: _, _, h => by cases h
  | .list _ :: _, _, h => by cases h
  | .tuple _ :: _, _, h => by cases h
  | .dict _ :: _, _, h => by cases h
def gSum : List PyData → Option PyData
  | [.tuple xs] => (intsOf xs).map fun ns => .int ns.sum
  | [.list xs] => (intsOf xs).map fun ns => .int ns.sum
  | _ => none
@[simp] theorem gSum_tup (xs : List PyData) : gSum [.tuple xs] = (intsOf xs).map fun ns => .int ns.sum := rfl
@[simp] theorem gSum_lst (xs : List PyData) : gSum [.list xs] = (intsOf xs).map fun ns => .int ns.sum := rfl
def rSumT (K : PySem.W.Frag) : List V → Hp → VK → Prop := fun vs H Q => ∃ (a : Addr) (ns : List Int), vs = [V.ref a] ∧ SqT K H a (ns.map V.int) ∧ Q (.int ns.sum) H
theorem cr_sumT (hc : X.calm = true) : CallR X (.builtin "sum") (rSumT X.K) := by
  intro pins s σ H vs us Q I r h
  obtain ⟨a, ns, rfl, hs, q⟩ := h
  obtain ⟨its, rv, hl, _⟩ := I.tuple hs
  rw [Vals.ref1 r]
  have hi := rv.ints
  obtain ⟨xs, hx⟩ := hi.allInts.items
  have hn : numsOf its.toArray.toList = ns := by rw [show its.toArray.toList = its from rfl, hi.numsOf]
  have hl2 : s.heap.IsTuple a its.toArray := hl
  rw [hx] at hl2 hn
  rw [nums_intItems] at hn
  refine PySem.W.ktm_sumG (I.ok.hd hc) hl2 fun h' tk t' hk => ?_
  refine ⟨.int _, H, I.kept hk, ⟨_, rfl⟩, ?_⟩
  rw [preSum_eq, List.take_of_length_le (by simp), hn]
  exact q
theorem cr_sumD (hc : X.calm = true) : CallR X (.builtin "sum") (fun vs H Q => rSum X.K vs H Q ∨ rSumT X.K vs H Q) := (cr_sum hc).or (cr_sumT hc)
theorem cv_sum : CD K (fun vs H Q => rSum K vs H Q ∨ rSumT K vs H Q) gSum := by
  intro vs ds d H Q hd e q
  cases hd with
  | nil => cases e
  | cons h1 h2 =>
    cases h2 with
    | cons _ _ => cases h1 <;> cases e
    | nil =>
      cases h1 <;> first | (cases e; done) | skip
      · rename_i p xs ds hx dx
        obtain ⟨ns, h3, rfl⟩ := Option.map_eq_some_iff.mp (show (intsOf ds).map (fun ns => PyData.int ns.sum) = some d from e)
        rw [intsOf_some h3] at dx
        rw [dx.ints] at hx
        exact .inl ⟨p, ns, rfl, hx, q _ H (Same.refl H) (.int _)⟩
      · rename_i p xs ds hx dx
        obtain ⟨ns, h3, rfl⟩ := Option.map_eq_some_iff.mp (show (intsOf ds).map (fun ns => PyData.int ns.sum) = some d from e)
        rw [intsOf_some h3] at dx
        rw [dx.ints] at hx
        exact .inr ⟨p, ns, rfl, hx, q _ H (Same.refl H) (.int _)⟩
def g2I (p : Int → Int → Int) : List PyData → Option PyData
  | [.int i, .int j] => some (.int (p i j))
  | _ => none
@[simp] theorem g2I_int (p : Int → Int → Int) (i j : Int) : g2I p [.int i, .int j] = some (.int (p i j)) := rfl
theorem cv_2I {p : Int → Int → Int} : CD K (fun xs H Q => ∃ i j, xs = [V.int i, V.int j] ∧ Q (.int (p i j)) H) (g2I p) := by
  intro vs ds d H Q hd e q
  cases hd with
  | nil => cases e
  | cons h1 h2 =>
    cases h2 with
    | nil => cases h1 <;> cases e
    | cons h3 h4 =>
      cases h4 with
      | cons _ _ => cases h1 <;> cases h3 <;> cases e
      | nil =>
        cases h1 <;> cases h3 <;> first | (cases e; done) | skip
        cases e
        exact ⟨_, _, rfl, q _ H (Same.refl H) (.int _)⟩
def gInt1 : List PyData → Option PyData
  | [.int i] => some (.int i)
  | _ => none
@[simp] theorem gInt1_int (i : Int) : gInt1 [.int i] = some (.int i) := rfl
theorem cv_int1 : CD K (fun xs H Q => (∃ i, xs = [V.int i] ∧ Q (.int i) H) ∨ ∃ k, xs = [V.bl k] ∧ Q (.int (if k then 1 else 0)) H) gInt1 := by
  intro vs ds d H Q hd e q
  cases hd with
  | nil => cases e
  | cons h1 h2 =>
    cases h2 with
    | cons _ _ => cases h1 <;> cases e
    | nil =>
      cases h1 <;> first | (cases e; done) | skip
      cases e
      exact .inl ⟨_, rfl, q _ H (Same.refl H) (.int _)⟩
def gStr1 : List PyData → Option PyData
  | [.int i] => if i.natAbs.log2 < 1920 then some (.str (toString i)) else none
  | _ => none
@[simp] theorem gStr1_int (i : Int) : gStr1 [.int i] = if i.natAbs.log2 < 1920 then some (.str (toString i)) else none := rfl
theorem cv_str1 : CD K (fun xs H Q => ∃ i, xs = [V.int i] ∧ i.natAbs.log2 < 1920 ∧ Q (.str (toString i)) H) gStr1 := by
  intro vs ds d H Q hd e q
  cases hd with
  | nil => cases e
  | cons h1 h2 =>
    cases h2 with
    | cons _ _ => cases h1 <;> cases e
    | nil =>
      cases h1 <;> first | (cases e; done) | skip
      rename_i i
      have e1 : (if i.natAbs.log2 < 1920 then some (PyData.str (toString i)) else none) = some d := e
      split at e1
      · rename_i hz
        cases e1
        exact ⟨_, rfl, hz, q _ H (Same.refl H) (.str _)⟩
      · cases e1
def bools? : List PyData → Option (List Bool)
  | [] => some []
  | .bool i :: r => (bools? r).map (i :: ·)
  | _ :: _ => none
@[simp] theorem bools_map (ns : List Bool) : bools? (ns.map PyData.bool) = some ns := by
  induction ns with
  | nil => rfl
  | cons a r ih => simp [bools?, ih]
theorem bools_some {H : Hp} : ∀ {vs : List V} {ds : List PyData} {ns : List Bool}, DpAll K H vs ds → bools? ds = some ns → vs = ns.map V.bl
  | _, _, _, .nil, h => by cases h; rfl
  | _, _, _, .cons (.bl b) r, h => by
    unfold bools? at h
    obtain ⟨m, h1, rfl⟩ := Option.map_eq_some_iff.mp h
    rw [bools_some r h1]
    rfl
  | _, _, _, .cons .non _, h => by cases h
  | _, _, _, .cons (.int _) _, h => by cases h
  | _, _, _, .cons (.str _) _, h => by cases h
  | _, _, _, .cons (.lst _ _) _, h => by cases h
  | _, _, _, .cons (.tup _ _) _, h => by cases h
def gAll : List PyData → Option PyData
  | [.list xs] => (bools? xs).map fun bs => .bool (bs.all id)
  | _ => none
@[simp] theorem gAll_lst (xs : List PyData) : gAll [.list xs] = (bools? xs).map fun bs => .bool (bs.all id) := rfl
theorem cv_all : CD K (rAll K) gAll := by
  intro vs ds d H Q hd e q
  cases hd with
  | nil => cases e
  | cons h1 h2 =>
    cases h2 with
    | cons _ _ => cases h1 <;> cases e
    | nil =>
      cases h1 <;> first | (cases e; done) | skip
      rename_i p xs ds hx dx
      obtain ⟨ns, h3, rfl⟩ := Option.map_eq_some_iff.mp (show (bools? ds).map (fun ns => PyData.bool (ns.all id)) = some d from e)
      rw [bools_some dx h3] at hx
      exact ⟨p, ns, rfl, hx, q _ H (Same.refl H) (.bl _)⟩
def gTupOf : List PyData → Option PyData
  | [.list xs] => some (.tuple xs)
  | [.tuple xs] => some (.tuple xs)
  | _ => none
@[simp] theorem gTupOf_lst (xs : List PyData) : gTupOf [.list xs] = some (.tuple xs) := rfl
@[simp] theorem gTupOf_tup (xs : List PyData) : gTupOf [.tuple xs] = some (.tuple xs) := rfl
def gLstOf : List PyData → Option PyData
  | [.list xs] => some (.list xs)
  | [.tuple xs] => some (.list xs)
  | _ => none
@[simp] theorem gLstOf_lst (xs : List PyData) : gLstOf [.list xs] = some (.list xs) := rfl
@[simp] theorem gLstOf_tup (xs : List PyData) : gLstOf [.tuple xs] = some (.list xs) := rfl
theorem cv_tupOf : CD K (fun xs H Q => ∃ p ys, xs = [V.ref p] ∧ ((SqL K H p ys ∧ ∀ l, H l = none → Q (.ref l) (upd H l (.tup ys))) ∨ (SqT K H p ys ∧ Q (.ref p) H))) gTupOf := by
  intro vs ds d H Q hd e q
  cases hd with
  | nil => cases e
  | cons h1 h2 =>
    cases h2 with
    | cons _ _ => cases h1 <;> cases e
    | nil =>
      cases h1 <;> first | (cases e; done) | skip
      · rename_i p xs ds hx dx
        cases e
        exact ⟨p, xs, rfl, .inl ⟨hx, fun l hl => q _ _ (Same.new hl) (.tup (SqT.of upd_same) (dx.same (Same.new hl)))⟩⟩
      · rename_i p xs ds hx dx
        cases e
        exact ⟨p, xs, rfl, .inr ⟨hx, q _ H (Same.refl H) (.tup hx dx)⟩⟩
theorem cv_lstOf : CD K (fun xs H Q => ∃ p ys, xs = [V.ref p] ∧ (SqL K H p ys ∨ SqT K H p ys) ∧ ∀ l, H l = none → Q (.ref l) (upd H l (.lst ys))) gLstOf := by
  intro vs ds d H Q hd e q
  cases hd with
  | nil => cases e
  | cons h1 h2 =>
    cases h2 with
    | cons _ _ => cases h1 <;> cases e
    | nil =>
      cases h1 <;> first | (cases e; done) | skip
      · rename_i p xs ds hx dx
        cases e
        exact ⟨p, xs, rfl, .inl hx, fun l hl => q _ _ (Same.new hl) (.lst (SqL.of upd_same) (dx.same (Same.new hl)))⟩
      · rename_i p xs ds hx dx
        cases e
        exact ⟨p, xs, rfl, .inr hx, fun l hl => q _ _ (Same.new hl) (.lst (SqL.of upd_same) (dx.same (Same.new hl)))⟩
/-- isinstance(x, T) -/
def isD : String → PyData → Option Bool
  | "int", d => some d.isInt
  | "bool", d => some d.isBool
  | "str", d => some d.isStr
  | "tuple", d => some d.isTuple
  | _, _ => none
@[simp] theorem isD_int (d : PyData) : isD "int" d = some d.isInt := rfl
@[simp] theorem isInt_none : PyData.isInt (.none) = false := rfl
@[simp] theorem isInt_bool (b : Bool) : PyData.isInt (.bool b) = true := rfl
@[simp] theorem isInt_int (i : Int) : PyData.isInt (.int i) = true := rfl
@[simp] theorem isInt_str (z : Str) : PyData.isInt (.str z) = false := rfl
@[simp] theorem isInt_list (xs : List PyData) : PyData.isInt (.list xs) = false := rfl
@[simp] theorem isInt_tuple (xs : List PyData) : PyData.isInt (.tuple xs) = false := rfl
@[simp] theorem isD_bool (d : PyData) : isD "bool" d = some d.isBool := rfl
@[simp] theorem isBool_none : PyData.isBool (.none) = false := rfl
@[simp] theorem isBool_bool (b : Bool) : PyData.isBool (.bool b) = true := rfl
@[simp] theorem isBool_int (i : Int) : PyData.isBool (.int i) = false := rfl
@[simp] theorem isBool_str (z : Str) : PyData.isBool (.str z) = false := rfl
@[simp] theorem isBool_list (xs : List PyData) : PyData.isBool (.list xs) = false := rfl
@[simp] theorem isBool_tuple (xs : List PyData) : PyData.isBool (.tuple xs) = false := rfl
@[simp] theorem isD_str (d : PyData) : isD "str" d = some d.isStr := rfl
@[simp] theorem isStr_none : PyData.isStr (.none) = false := rfl
@[simp] theorem isStr_bool (b : Bool) : PyData.isStr (.bool b) = false := rfl
@[simp] theorem isStr_int (i : Int) : PyData.isStr (.int i) = false := rfl
@[simp] theorem isStr_str (z : Str) : PyData.isStr (.str z) = true := rfl
@[simp] theorem isStr_list (xs : List PyData) : PyData.isStr (.list xs) = false := rfl
@[simp] theorem isStr_tuple (xs : List PyData) : PyData.isStr (.tuple xs) = false := rfl
@[simp] theorem isD_tuple (d : PyData) : isD "tuple" d = some d.isTuple := rfl
@[simp] theorem isTuple_none : PyData.isTuple (.none) = false := rfl
@[simp] theorem isTuple_bool (b : Bool) : PyData.isTuple (.bool b) = false := rfl
@[simp] theorem isTuple_int (i : Int) : PyData.isTuple (.int i) = false := rfl
@[simp] theorem isTuple_str (z : Str) : PyData.isTuple (.str z) = false := rfl
@[simp] theorem isTuple_list (xs : List PyData) : PyData.isTuple (.list xs) = false := rfl
@[simp] theorem isTuple_tuple (xs : List PyData) : PyData.isTuple (.tuple xs) = true := rfl
def rIsD (K : PySem.W.Frag) (T : String) : List V → Hp → VK → Prop := fun xs H Q => ∃ x d b, xs = [x, V.ty T] ∧ Dp K H x d ∧ isD T d = some b ∧ Q (.bl b) H
theorem call_isD (T : String) : CallR X (.builtin "isinstance") (rIsD X.K T) := by
  intro pins s σ H vs us Q I r h
  obtain ⟨x, d, b, rfl, hx, hb, q⟩ := h
  obtain ⟨u1, u2, rfl, r1, r2⟩ := vals2 r
  have e2 : u2 = Value.type T := r2
  subst e2
  obtain ⟨as, hr⟩ := Dp.reads I d x u1 hx r1
  unfold isD at hb
  split at hb
  · cases hb
    exact PySem.W.isinstance_int_data hr fun tk _ => ⟨.bl _, H, I.tok tk, rfl, q⟩
  · cases hb
    exact PySem.W.isinstance_bool_data hr fun tk _ => ⟨.bl _, H, I.tok tk, rfl, q⟩
  · cases hb
    exact PySem.W.isinstance_str_data hr fun tk _ => ⟨.bl _, H, I.tok tk, rfl, q⟩
  · cases hb
    exact PySem.W.isinstance_tuple_data hr fun tk _ => ⟨.bl _, H, I.tok tk, rfl, q⟩
  · cases hb
@[simp] def fIsa (T : String) (f : DE → Option PyData) : DE → Option PyData := fun ρ => (f ρ).bind fun d => (isD T d).map .bool
theorem d_isa {T : String} {x : Str} {p p2 : Pos} (ha : PE X e (tD X.K f)) (hm : X.mg "isinstance" = none) (hmT : X.mg x = none) (hT : bootBuiltins x = some (.type T) := by decide +kernel) (hg : Gl X "isinstance" := by rfl) (hgT : Gl X x := by rfl) (hnT : x ≠ "__name__" := by decide) (hdT : (x == ("__debug__" : Str)) = false := by decide)
    (he : starEach [e, .Name x p2] X.env = (false, eval e X.env) :: starEach [.Name x p2] X.env := by rfl) (he2 : starEach [.Name x p2] X.env = (false, eval (.Name x p2) X.env) :: starEach [] X.env := by rfl) (hpl : (backTo pos (starEach [.Name x p2] X.env)).any (·.1) = false := by rfl) :
    PE X (.Call (.Name "isinstance" p) [e, .Name x p2] [] pos) (tD X.K (fIsa T f)) :=
  (pe_callB (call_isD T) hg hm bt_isinstance (pa_cons ha (pa_cons (pe_bltn (v := .ty T) hgT hmT hT rfl hnT hdT) pa_nil he2) he) (by decide) (by decide) he hpl).imp fun σ H Q ⟨ρ, d, hen, hf, q⟩ => by
    obtain ⟨x, h1, h2⟩ := Option.bind_eq_some_iff.mp hf
    obtain ⟨b, h3, rfl⟩ := Option.map_eq_some_iff.mp h2
    exact ⟨ρ, x, hen, h1, fun v H1 s1 d1 => ⟨v, x, b, rfl, d1, h3, q _ H1 s1 (.bl _)⟩⟩

/-! ### statements -/
inductive DR where
  | nx (ρ : DE)
  | rt (d : PyData)
def tDS (K : PySem.W.Frag) (F : DE → Option DR) : TS := fun D σ H => ∃ ρ r, EnvD K H σ ρ ∧ F ρ = some r ∧ (∀ ρ', r = .nx ρ' → ∀ σ' H', Same H H' → EnvD K H' σ' ρ' → D.nx σ' H') ∧ (∀ d, r = .rt d → ∀ v H', Same H H' → Dp K H' v d → D.rt v H')
@[simp] def sSkip : DE → Option DR := fun ρ => some (.nx ρ)
def thenR (G : DE → Option DR) : DR → Option DR
  | .nx ρ' => G ρ'
  | .rt d => some (.rt d)
@[simp] theorem thenR_nx (G : DE → Option DR) (ρ : DE) : thenR G (.nx ρ) = G ρ := rfl
@[simp] theorem thenR_rt (G : DE → Option DR) (d : PyData) : thenR G (.rt d) = some (.rt d) := rfl
@[simp] def sSeq (F G : DE → Option DR) : DE → Option DR := fun ρ => (F ρ).bind (thenR G)
@[simp] def sRet (f : DE → Option PyData) : DE → Option DR := fun ρ => (f ρ).map .rt
@[simp] def sSet (i : Nat) (f : DE → Option PyData) : DE → Option DR := fun ρ => (f ρ).map fun d => .nx (ρ.set i (some d))
@[simp] def sIf (c : DE → Option Bool) (F G : DE → Option DR) : DE → Option DR := fun ρ => (c ρ).bind fun b => if b = true then F ρ else G ρ
@[simp] def sNever : DE → Option DR := fun _ => none
variable {F G : DE → Option DR} {st : Stmt} {sts sts2 : List Stmt}
theorem ss_nil : PSs X [] (tDS X.K sSkip) := PSs.imp pss_nil fun D σ H ⟨ρ, r, he, hf, q1, q2⟩ => by
  cases hf
  exact q1 _ rfl σ H (Same.refl H) he
theorem ss_cons (h1 : PS X st (tDS X.K F)) (h2 : PSs X sts (tDS X.K G)) : PSs X (st :: sts) (tDS X.K (sSeq F G)) := PSs.imp (pss_cons h1 h2) fun D σ H ⟨ρ, r, he, hf, q1, q2⟩ => by
  obtain ⟨r1, h3, h4⟩ := Option.bind_eq_some_iff.mp hf
  refine ⟨ρ, r1, he, h3, fun ρ' e1 σ' H' s1 he' => ?_, fun d e1 v H' s1 d1 => ?_⟩
  · subst e1
    exact ⟨ρ', r, he', h4, fun ρ2 e2 σ2 H2 s2 he2 => q1 ρ2 e2 σ2 H2 (s1.trans s2) he2, fun d e2 v H2 s2 d2 => q2 d e2 v H2 (s1.trans s2) d2⟩
  · subst e1
    cases h4
    exact q2 d rfl v H' s1 d1
theorem ss_one (h1 : PS X st (tDS X.K F)) : PSs X [st] (tDS X.K F) := pss_one h1
theorem s_ret (ha : PE X e (tD X.K f)) : PS X (.Return (some e) pos) (tDS X.K (sRet f)) := PS.imp (ps_ret ha) fun D σ H ⟨ρ, r, he, hf, q1, q2⟩ => by
  obtain ⟨d, h1, rfl⟩ := Option.map_eq_some_iff.mp hf
  exact ⟨ρ, d, he, h1, fun v H1 s1 d1 => q2 d rfl v H1 s1 d1⟩
theorem s_never : PS X st (tDS X.K sNever) := PS.imp ps_never fun D σ H ⟨ρ, r, he, hf, q1, q2⟩ => by cases hf
theorem s_if {tc : Expr} {a b : List Stmt} (hc : PT X tc (tDT X.K c)) (ha : PSs X a (tDS X.K F)) (hb : PSs X b (tDS X.K G)) : PS X (.If tc a b pos) (tDS X.K (sIf c F G)) := PS.imp (ps_if hc ha hb) fun D σ H ⟨ρ, r, he, hf, q1, q2⟩ => by
  obtain ⟨b, h1, h2⟩ := Option.bind_eq_some_iff.mp hf
  refine ⟨ρ, b, he, h1, fun H1 s1 => ?_⟩
  cases b with
  | true =>
    rw [if_pos rfl] at h2 ⊢
    exact ⟨ρ, r, he.same s1, h2, fun ρ2 e2 σ2 H2 s2 he2 => q1 ρ2 e2 σ2 H2 (s1.trans s2) he2, fun d e2 v H2 s2 d2 => q2 d e2 v H2 (s1.trans s2) d2⟩
  | false =>
    rw [if_neg Bool.false_ne_true] at h2 ⊢
    exact ⟨ρ, r, he.same s1, h2, fun ρ2 e2 σ2 H2 s2 he2 => q1 ρ2 e2 σ2 H2 (s1.trans s2) he2, fun d e2 v H2 s2 d2 => q2 d e2 v H2 (s1.trans s2) d2⟩
theorem s_set (i : Nat) {x : Str} {pos' : Pos} (hN : X.N.Nodup) (ha : PE X e (tD X.K f)) (hi : X.N[i]? = some x := by rfl) (hx : Loc X.env.scope x := by first | exact Or.inl rfl | exact Or.inr rfl) (hs : swapsWith e (some (.Name x pos')) pos.line X.env = pure false := by rfl)
    (hf : X.fn x = true ∨ X.env.scope.names.lookup x = some .local := by first | exact .inl rfl | exact .inr rfl) : PS X (.Assign [.Name x pos'] e pos) (tDS X.K (sSet i f)) := PS.imp (ps_set hN hi hx ha hs hf) fun D σ H ⟨ρ, r, he, hf, q1, q2⟩ => by
  obtain ⟨d, h1, rfl⟩ := Option.map_eq_some_iff.mp hf
  exact ⟨ρ, d, he, h1, fun v H1 s1 d1 => q1 _ rfl _ H1 s1 ((he.same s1).set d1)⟩
/-- the slots of the parameters -/
@[simp] def startD (N : List Str) (ds : List PyData) : DE := ds.map some ++ List.replicate (N.length - ds.length) none
theorem env_start {H : Hp} {N : List Str} {vs : List V} {ds : List PyData} (h : DpAll K H vs ds) : EnvD K H (start N vs) (startD N ds) := by
  refine ⟨by simp [start, startD, h.length], fun i d hi => ?_⟩
  unfold startD at hi
  unfold start
  have hl := h.length
  by_cases hlt : i < ds.length
  · rw [List.getElem?_append_left (by simpa using hlt)] at hi
    rw [List.getElem?_append_left (by simpa [hl] using hlt)]
    rw [List.getElem?_map] at hi
    obtain ⟨d', h1, h2⟩ := Option.map_eq_some_iff.mp hi
    cases h2
    obtain ⟨v, h3, h4⟩ := h.get h1
    exact ⟨v, by rw [List.getElem?_map, h3]; rfl, h4⟩
  · rw [List.getElem?_append_right (by simpa using hlt)] at hi
    rw [List.getElem?_replicate] at hi
    split at hi <;> cases hi
end
section
variable {P : Program} {w : World} {K : PySem.W.Frag} {mg : Str → Option Value} {base : Heap}
/-- a def of data, by its body -/
theorem okD {x qual : Str} {st : Stmt} {a : Addr} {fd : FuncData} {N ps : List Str} {k : Nat} {gg : List PyData → Option PyData} {Fd : DE → Option DR} (F : Fun K x qual st a fd) (S : FnScope N ps (defScope st)) (hn : ∀ ds d, gg ds = some d → ds.length = ps.length)
    (hrun : ∀ ds d, gg ds = some d → Fd (startD N ds) = some (.rt d) ∨ ∃ ρ, Fd (startD N ds) = some (.nx ρ) ∧ d = .none)
    (hbody : ∀ (cdv : Value) (A : Around) (outer : List Env) (s : Shared) (H : Hp) (E : XK), Room k (A.deeper (envOfC qual (defScope st) s.heap.objs.size a cdv)) →
      PSs (cxOf CX0 P w K mg base N qual (defScope st) a cdv A outer s H E).nox (defBody st) (tDS K Fd)) : FnOk P w K mg base CX0 (k + 1) a fd ps (spF gg K) := by
  refine F.ok S (fun vs H Q E h => ?_) (fun cdv A outer s H vs Q E hr h => ⟨_, hbody cdv A outer s H E hr, ?_⟩)
  · obtain ⟨ds, d, h1, h2, _⟩ := h
    rw [h1.length]
    exact hn ds d h2
  · obtain ⟨ds, d, h1, h2, q⟩ := h
    rcases hrun ds d h2 with h3 | ⟨ρ, h3, rfl⟩
    · refine ⟨startD N ds, DR.rt d, env_start h1, h3, fun ρ' e1 => (nomatch e1), fun d' e1 v H' s1 d1 => ?_⟩
      cases e1
      exact q v H' s1 d1
    · exact ⟨startD N ds, DR.nx ρ, env_start h1, h3, fun ρ' e1 σ' H' s1 _ => q _ H' s1 .non, fun d' e1 => (nomatch e1)⟩
end
end L2
set_option maxHeartbeats 4000000
/-! PdE: targets, walks, comprehensions, for over plain data. -/
namespace L2
open PySem PySem.Spec PyProof.Rows
section
variable {K : PySem.W.Frag} {X : Cx} {e e2 e3 tg : Expr} {es rest : List Expr} {pos : Pos} {f g h : DE → Option PyData} {c c2 : DE → Option Bool} {fs : DE → Option (List PyData)}

/-! ### targets -/
theorem wipe_set : ∀ {vs : List Nat} {σ : St} {j : Nat} {x : Option V}, j ∈ vs → wipe (σ.set j x) vs = wipe σ vs
  | v :: vs, σ, j, x, h => by
    unfold wipe
    by_cases hj : j ∈ vs
    · rw [wipe_set hj]
    · have e : j = v := by
        rcases List.mem_cons.mp h with e | e
        · exact e
        · exact absurd e hj
      subst e
      have q : ∀ (vs : List Nat) (σ : St), j ∉ vs → wipe (σ.set j x) vs = (wipe σ vs).set j x := by
        intro vs
        induction vs with
        | nil => intro σ _; rfl
        | cons a r ih =>
          intro σ hn
          unfold wipe
          rw [ih σ fun z => hn (List.mem_cons_of_mem _ z), List.set_comm _ _ fun z => hn (by rw [z]; exact List.mem_cons_self)]
      rw [q vs σ hj, List.set_set]
theorem wipe_wipe (σ : St) (vs : List Nat) : wipe (wipe σ vs) vs = wipe σ vs := by
  have q : ∀ (us ws : List Nat) (σ : St), (∀ u ∈ us, u ∈ ws) → wipe (wipe σ us) ws = wipe σ ws := by
    intro us
    induction us with
    | nil => intro ws σ _; rfl
    | cons a r ih =>
      intro ws σ hs
      show wipe ((wipe σ r).set a none) ws = _
      rw [wipe_set (hs a List.mem_cons_self), ih ws σ fun u hu => hs u (List.mem_cons_of_mem _ hu)]
  exact q vs vs σ fun _ hu => hu
@[simp] def wipeD (ρ : DE) : List Nat → DE
  | [] => ρ
  | v :: vs => (wipeD ρ vs).set v none
theorem EnvD.wipe {H : Hp} {σ : St} {ρ : DE} (h : EnvD K H σ ρ) : ∀ vs : List Nat, EnvD K H (L2.wipe σ vs) (wipeD ρ vs)
  | [] => h
  | v :: vs => (EnvD.wipe h vs).unset
/-- what a target does with a datum -/
structure DG (K : PySem.W.Frag) (g : TG) (js : List Nat) (set : PyData → DE → Option DE) : Prop where
  run : ∀ (v : V) (d : PyData) (σ : St) (H : Hp) (ρ ρ' : DE) (Q : St → Hp → Prop), EnvD K H σ ρ → Dp K H v d → set d ρ = some ρ' → (∀ σ', EnvD K H σ' ρ' → (∀ vs : List Nat, (∀ j ∈ js, j ∈ vs) → L2.wipe σ' vs = L2.wipe σ vs) → Q σ' H) → g v σ H Q
@[simp] def setN (j : Nat) : PyData → DE → Option DE := fun d ρ => some (ρ.set j (some d))
theorem dg_name (j : Nat) : DG K (gName j) [j] (setN j) := ⟨fun v d σ H ρ ρ' Q he hd hs q => by
  cases hs
  exact q _ (he.set hd) fun vs hj => wipe_set (hj j (by simp))⟩
@[simp] def setAll : List Nat → List PyData → DE → Option DE
  | [], [], ρ => some ρ
  | j :: js, d :: ds, ρ => setAll js ds (ρ.set j (some d))
  | _, _, _ => none
def gNms : List Nat → TGs
  | [] => gNil
  | j :: js => gCons (gName j) (gNms js)
theorem gNms_run {H : Hp} : ∀ {js : List Nat} {vs : List V} {ds : List PyData} {σ : St} {ρ ρ' : DE} {Q : St → Hp → Prop}, EnvD K H σ ρ → DpAll K H vs ds → setAll js ds ρ = some ρ' →
    (∀ σ', EnvD K H σ' ρ' → (∀ us : List Nat, (∀ j ∈ js, j ∈ us) → L2.wipe σ' us = L2.wipe σ us) → Q σ' H) → gNms js vs σ H Q
  | [], _, _, _, _, _, _, he, .nil, hs, q => by
    cases hs
    exact ⟨rfl, q _ he fun _ _ => rfl⟩
  | [], _, _, _, _, _, _, he, .cons _ _, hs, q => by cases hs
  | j :: js, _, _, _, _, _, _, he, .nil, hs, q => by cases hs
  | j :: js, _, _, _, _, _, _, he, .cons h1 h2, hs, q => by
    refine ⟨_, _, rfl, ?_⟩
    refine gNms_run (he.set h1) h2 hs fun σ' he' hw => q σ' he' fun us hj => ?_
    rw [hw us fun k hk => hj k (List.mem_cons_of_mem _ hk)]
    exact wipe_set (hj j List.mem_cons_self)
def setT (js : List Nat) : PyData → DE → Option DE
  | .tuple ds, ρ => if ds.length = js.length then setAll js ds ρ else none
  | _, _ => none
@[simp] theorem setT_tup (js : List Nat) (ds : List PyData) (ρ : DE) : setT js (.tuple ds) ρ = if ds.length = js.length then setAll js ds ρ else none := rfl
theorem dg_tup (js : List Nat) (n : Nat) (hn : js.length = n := by rfl) : DG K (gTup K n (gNms js)) js (setT js) := ⟨fun v d σ H ρ ρ' Q he hd hs q => by
  cases hd <;> first | (cases hs; done) | skip
  rename_i p xs ds hx dx
  have e1 : (if ds.length = js.length then setAll js ds ρ else none) = some ρ' := hs
  split at e1
  · rename_i hz
    exact ⟨p, xs, rfl, hx, by rw [dx.length, hz, hn], gNms_run he dx e1 q⟩
  · cases e1⟩
/-- target = value -/
@[simp] def sAsgG (set : PyData → DE → Option DE) (f : DE → Option PyData) : DE → Option DR := fun ρ => (f ρ).bind fun d => (set d ρ).map .nx
theorem s_asg {gt : TG} {js : List Nat} {set : PyData → DE → Option DE} (he : PE X e (tD X.K f)) (hg : PG X tg gt) (dg : DG X.K gt js set) (hs : swapsWithSole [tg] e pos.line X.env = pure false := by rfl) (hw : swappedStores [tg] e X.env = pure none := by rfl)
    (h1 : (assignEach [tg] X.env).map (·.2) = [assign tg X.env] := by rfl) : PS X (.Assign [tg] e pos) (tDS X.K (sAsgG set f)) := PS.imp (ps_asg he hg hs hw h1) fun D σ H ⟨ρ, r, he, hf, q1, q2⟩ => by
  obtain ⟨d, h1, h2⟩ := Option.bind_eq_some_iff.mp hf
  obtain ⟨ρ', h3, rfl⟩ := Option.map_eq_some_iff.mp h2
  exact ⟨ρ, d, he, h1, fun v H1 s1 d1 => dg.run v d σ H1 ρ ρ' _ (he.same s1) d1 h3 fun σ' he' _ => q1 ρ' rfl σ' H1 s1 he'⟩
/-- a, b = x, y -/
@[simp] def sPar (i j : Nat) (f g : DE → Option PyData) : DE → Option DR := fun ρ => (f ρ).bind fun a => (g ρ).map fun b => .nx ((ρ.set i (some a)).set j (some b))
theorem s_par {i j : Nat} {x y : Str} {a b : Expr} {px py pt : Pos} {kt k2 pt2} (hN : X.N.Nodup) (ha : PE X a (tD X.K f)) (hb : PE X b (tD X.K g)) (hi : X.N[i]? = some x) (hj : X.N[j]? = some y) (hij : i ≠ j) (hc : X.calm = true := by rfl)
    (hx : X.env.scope.names.lookup x = some .local := by rfl) (hy : X.env.scope.names.lookup y = some .local := by rfl)
    (hw : swappedStores [.Tuple [.Name x px, .Name y py] kt pt] (.Tuple [a, b] k2 pt2) X.env = pure (some [x, y]) := by rfl)
    (hs : swapsWithSole [.Tuple [.Name x px, .Name y py] kt pt] (.Tuple [a, b] k2 pt2) pos.line X.env = pure false := by rfl) (s1 : starEach [a, b] X.env = (false, eval a X.env) :: starEach [b] X.env := by rfl) (s2 : starEach [b] X.env = (false, eval b X.env) :: starEach [] X.env := by rfl) :
    PS X (.Assign [.Tuple [.Name x px, .Name y py] kt pt] (.Tuple [a, b] k2 pt2) pos) (tDS X.K (sPar i j f g)) := PS.imp (ps_par hc hN hi hj hij hx hy (pa_cons ha (pa_cons hb pa_nil s2) s1) hw hs) fun D σ H ⟨ρ, r, he, hf, q1, q2⟩ => by
  obtain ⟨d, h1, h2⟩ := Option.bind_eq_some_iff.mp hf
  obtain ⟨d', h3, rfl⟩ := Option.map_eq_some_iff.mp h2
  exact ⟨ρ, d, he, h1, fun v H1 s1 dv => ⟨ρ, d', he.same s1, h3, fun u H2 s2 du => ⟨v, u, rfl, q1 _ rfl _ H2 (s1.trans s2) ((((he.same s1).same s2).set (dv.same s2)).set du)⟩⟩⟩

/-! ### walks -/
/-- the walk J goes through the data xs, from the heap H on -/
structure WalkD (K : PySem.W.Frag) (J : It) (H : Hp) (xs : List PyData) : Prop where
  go : ∀ i H2, Same H H2 → i < xs.length → J.go i H2
  stop : ∀ H2, Same H H2 → J.stop xs.length H2
  yld : ∀ i H2 x H3, Same H H2 → J.yld i H2 x H3 → i < xs.length → Same H2 H3 ∧ (∀ a o, H3 a = some o → H2 a = some o ∨ (H2 a = none)) ∧ ∃ d, xs[i]? = some d ∧ Dp K H3 x d
def iD (K : PySem.W.Frag) (fi : DE → Option (List PyData)) : TI := fun σ H R => ∃ ρ xs, EnvD K H σ ρ ∧ fi ρ = some xs ∧ ∀ J H', Same H H' → WalkD K J H' xs → R J H'
theorem PI.imp {it : Expr} {t t' : TI} (h : PI X tg it t) (i : ∀ σ H R, t' σ H R → t σ H R) : PI X tg it t' := ⟨fun pins s σ H R I hw => h.run pins s σ H R I (i σ H R hw)⟩
theorem walk_list {H : Hp} {a : Addr} {vs : List V} {xs : List PyData} (hx : SqL K H a vs) (dx : DpAll K H vs xs) : WalkD K (Itl K a) H xs where
  go := fun i H2 s hi => ⟨vs, vs[i]'(by rw [dx.length]; exact hi), s.seq hx, by simp⟩
  stop := fun H2 s => ⟨vs, s.seq hx, Nat.le_of_eq dx.length⟩
  yld := fun i H2 x H3 s y hi => by
    obtain ⟨rfl, y⟩ := y
    obtain ⟨d, h1, h2⟩ := dx.get' (y vs (s.seq hx))
    exact ⟨Same.refl _, fun a o h => .inl h, d, h1, h2.same s⟩
theorem walk_tup {H : Hp} {a : Addr} {vs : List V} {xs : List PyData} (hx : SqT K H a vs) (dx : DpAll K H vs xs) : WalkD K (Itt K a) H xs where
  go := fun i H2 s hi => ⟨vs, vs[i]'(by rw [dx.length]; exact hi), same_t s hx, by simp⟩
  stop := fun H2 s => ⟨vs, same_t s hx, Nat.le_of_eq dx.length⟩
  yld := fun i H2 x H3 s y hi => by
    obtain ⟨rfl, y⟩ := y
    obtain ⟨d, h1, h2⟩ := dx.get' (y vs (same_t s hx))
    exact ⟨Same.refl _, fun a o h => .inl h, d, h1, h2.same s⟩
def rngD (lo : Int) (n : Nat) : List PyData := (List.range n).map fun (i : Nat) => .int (lo + (i : Int))
theorem rngD_length (lo : Int) (n : Nat) : (rngD lo n).length = n := by simp [rngD]
theorem walk_rng {H : Hp} (lo : Int) (n : Nat) : WalkD K (Itr lo n) H (rngD lo n) where
  go := fun i H2 s hi => by rw [rngD_length] at hi; exact hi
  stop := fun H2 s => by rw [rngD_length]; exact Nat.le_refl n
  yld := fun i H2 x H3 s y hi => by
    obtain ⟨rfl, rfl⟩ := y
    rw [rngD_length] at hi
    exact ⟨Same.refl _, fun a o h => .inl h, .int (lo + i), by simp [rngD, hi], .int _⟩
def asLst : PyData → Option (List PyData)
  | .list xs => some xs
  | _ => none
def asTup : PyData → Option (List PyData)
  | .tuple xs => some xs
  | _ => none
@[simp] theorem asLst_lst (xs : List PyData) : asLst (.list xs) = some xs := rfl
@[simp] theorem asTup_tup (xs : List PyData) : asTup (.tuple xs) = some xs := rfl
@[simp] def fItemsL (f : DE → Option PyData) : DE → Option (List PyData) := fun ρ => (f ρ).bind asLst
@[simp] def fItemsT (f : DE → Option PyData) : DE → Option (List PyData) := fun ρ => (f ρ).bind asTup
theorem i_list (he : PE X e (tD X.K f)) : PI X tg e (iD X.K (fItemsL f)) := PI.imp (pi_list he) fun σ H R ⟨ρ, xs, hen, hf, q⟩ => by
  obtain ⟨d, h1, h2⟩ := Option.bind_eq_some_iff.mp hf
  refine ⟨ρ, d, hen, h1, fun v H1 s1 d1 => ?_⟩
  cases d1 <;> first | (cases h2; done) | skip
  rename_i p vs ds hx dx
  cases h2
  exact ⟨p, rfl, ⟨vs, hx⟩, q _ H1 s1 (walk_list hx dx)⟩
theorem i_tup (he : PE X e (tD X.K f)) : PI X tg e (iD X.K (fItemsT f)) := PI.imp (pi_tup he) fun σ H R ⟨ρ, xs, hen, hf, q⟩ => by
  obtain ⟨d, h1, h2⟩ := Option.bind_eq_some_iff.mp hf
  refine ⟨ρ, d, hen, h1, fun v H1 s1 d1 => ?_⟩
  cases d1 <;> first | (cases h2; done) | skip
  rename_i p vs ds hx dx
  cases h2
  exact ⟨p, rfl, ⟨vs, hx⟩, q _ H1 s1 (walk_tup hx dx)⟩
def asRng : List PyData → Option (List PyData)
  | [.int i, .int j] => if -1000000 ≤ i ∧ i ≤ 1000000 ∧ -1000000 ≤ j ∧ j ≤ 1000000 then some (rngD i (j - i).toNat) else none
  | _ => none
@[simp] theorem asRng_int (i j : Int) : asRng [.int i, .int j] = if -1000000 ≤ i ∧ i ≤ 1000000 ∧ -1000000 ≤ j ∧ j ≤ 1000000 then some (rngD i (j - i).toNat) else none := rfl
@[simp] def fRng (fs : DE → Option (List PyData)) : DE → Option (List PyData) := fun ρ => (fs ρ).bind asRng
theorem i_rng {a b : Expr} {p : Pos} (hm : X.mg "range" = none) (ha : PA X [a, b] (tDA X.K fs)) (hg : Gl X "range" := by rfl) (hs : starEach [a, b] X.env = [(false, eval a X.env), (false, eval b X.env)] := by rfl) (hs2 : starEach [b] X.env = [(false, eval b X.env)] := by rfl) :
    PI X tg (.Call (.Name "range" p) [a, b] [] pos) (iD X.K (fRng fs)) := PI.imp (pi_range2 hg hm ha hs hs2) fun σ H R ⟨ρ, xs, hen, hf, q⟩ => by
  obtain ⟨ds, h1, h2⟩ := Option.bind_eq_some_iff.mp hf
  refine ⟨ρ, ds, hen, h1, fun vs H1 s1 d1 => ?_⟩
  unfold asRng at h2
  split at h2
  · rename_i i j
    split at h2
    · rename_i hz
      cases h2
      cases d1 with
      | cons x1 x2 => cases x2 with
        | cons x3 x4 => cases x4 with
          | nil =>
            cases x1
            cases x3
            exact ⟨i, j, rfl, ⟨by omega, by omega, by omega, by omega⟩, q _ H1 s1 (walk_rng i _)⟩
    · cases h2
  · cases h2
/-- zip of two tuples -/
def zipD : List PyData → List PyData → List PyData
  | x :: xs, y :: ys => .tuple [x, y] :: zipD xs ys
  | _, _ => []
theorem zipD_length : ∀ xs ys : List PyData, (zipD xs ys).length = min xs.length ys.length
  | [], ys => by simp [zipD]
  | x :: xs, [] => by simp [zipD]
  | x :: xs, y :: ys => by simp [zipD, zipD_length xs ys]
theorem zipD_get : ∀ {xs ys : List PyData} {i : Nat} {x y : PyData}, xs[i]? = some x → ys[i]? = some y → (zipD xs ys)[i]? = some (.tuple [x, y])
  | [], _, i, _, _, h, _ => by simp at h
  | _ :: _, [], i, _, _, _, h => by simp at h
  | a :: xs, b :: ys, 0, x, y, h1, h2 => by simp at h1 h2; subst h1; subst h2; rfl
  | a :: xs, b :: ys, i + 1, x, y, h1, h2 => by
    have := zipD_get (xs := xs) (ys := ys) (i := i) (by simpa using h1) (by simpa using h2)
    simpa [zipD] using this
theorem walk_zipT {H : Hp} {a b : Addr} {vs us : List V} {xs ys : List PyData} (hx : SqT K H a vs) (dx : DpAll K H vs xs) (hy : SqT K H b us) (dy : DpAll K H us ys) : WalkD K (RZ.ItzT K a b) H (zipD xs ys) where
  go := fun i H2 s hi => by
    rw [zipD_length] at hi
    have l1 : i < vs.length := by rw [dx.length]; omega
    have l2 : i < us.length := by rw [dy.length]; omega
    exact ⟨vs, us, vs[i], us[i], same_t s hx, same_t s hy, by simp, by simp⟩
  stop := fun H2 s => by
    rw [zipD_length, ← dx.length, ← dy.length]
    exact ⟨vs, us, same_t s hx, same_t s hy, by omega⟩
  yld := fun i H2 x H3 s y hi => by
    obtain ⟨T, p, q, rfl, hT, rfl, y1, y2⟩ := y
    obtain ⟨d, h1, h2⟩ := dx.get' (y1 vs (same_t s hx))
    obtain ⟨d', h3, h4⟩ := dy.get' (y2 us (same_t s hy))
    have sn : Same H2 (upd H2 T (.tup [p, q])) := Same.new hT
    refine ⟨sn, fun a o h => ?_, .tuple [d, d'], zipD_get h1 h3, .tup (SqT.of upd_same) (.cons (h2.same (s.trans sn)) (.cons (h4.same (s.trans sn)) .nil))⟩
    by_cases ha : a = T
    · subst ha; exact .inr hT
    · rw [upd_ne ha] at h; exact .inl h
def asZip : List PyData → Option (List PyData)
  | [.tuple xs, .tuple ys] => some (zipD xs ys)
  | _ => none
@[simp] theorem asZip_tup (xs ys : List PyData) : asZip [.tuple xs, .tuple ys] = some (zipD xs ys) := rfl
@[simp] def fZip (fs : DE → Option (List PyData)) : DE → Option (List PyData) := fun ρ => (fs ρ).bind asZip
theorem i_zip {a b : Expr} {p tpos : Pos} {elts : List Expr} {kk : Nat} (hm : X.mg "zip" = none) (ha : PA X [a, b] (tDA X.K fs)) (hg : Gl X "zip" := by rfl) (hs : starEach [a, b] X.env = (false, eval a X.env) :: starEach [b] X.env := by rfl) (hpl : (backTo pos (starEach [b] X.env)).any (·.1) = false := by rfl) :
    PI X (.Tuple elts kk tpos) (.Call (.Name "zip" p) [a, b] [] pos) (iD X.K (fZip fs)) := PI.imp (RZ.pi_zipA hg hm ha hs hpl) fun σ H R ⟨ρ, xs, hen, hf, q⟩ => by
  obtain ⟨ds, h1, h2⟩ := Option.bind_eq_some_iff.mp hf
  refine ⟨ρ, ds, hen, h1, fun vs H1 s1 d1 => ?_⟩
  unfold asZip at h2
  split at h2
  · rename_i x1 x2
    cases h2
    cases d1 with
    | cons d1 d2 => cases d2 with
      | cons d2 d3 => cases d3 with
        | nil =>
          cases d1
          cases d2
          rename_i p hx dx p2 us hy dy
          exact ⟨_, _, _, _, rfl, .inr ⟨hx, hy, q _ H1 s1 (walk_zipT hx dx hy dy)⟩⟩
  · cases h2

/-! ### data without lists stays where a list or another object changes -/
mutual
@[simp] def noL : PyData → Bool
  | .list _ => false
  | .dict _ => false
  | .tuple xs => noLAll xs
  | _ => true
@[simp] def noLAll : List PyData → Bool
  | [] => true
  | x :: xs => noL x && noLAll xs
end
def NoSeq (o : Option HO) : Prop := (∀ xs, o ≠ some (.tup xs)) ∧ (∀ ob u, o ≠ some (.frz ob u))
theorem sqt_upd {H : Hp} {a p : Addr} {xs : List V} {o : HO} (h : SqT K H a xs) (hp : NoSeq (H p)) : SqT K (upd H p o) a xs := by
  rcases h with (h | ⟨ob, h⟩) | h
  · refine .inl (.inl ?_)
    rw [upd_ne (fun z => hp.1 xs (by rw [← z]; exact h))]
    exact h
  · refine .inl (.inr ⟨ob, ?_⟩)
    rw [upd_ne (fun z => hp.2 ob _ (by rw [← z]; exact h))]
    exact h
  · exact .inr h
mutual
theorem Dp.upd {H : Hp} {p : Addr} {o : HO} (hp : NoSeq (H p)) : ∀ {d : PyData} {v : V}, Dp K H v d → noL d = true → Dp K (L2.upd H p o) v d
  | _, _, .non, _ => .non
  | _, _, .bl b, _ => .bl b
  | _, _, .int i, _ => .int i
  | _, _, .str x, _ => .str x
  | _, _, .lst h r, e => by cases e
  | _, _, .tup h r, e => .tup (sqt_upd h hp) (DpAll.upd hp r (by unfold noL at e; exact e))
theorem DpAll.upd {H : Hp} {p : Addr} {o : HO} (hp : NoSeq (H p)) : ∀ {ds : List PyData} {vs : List V}, DpAll K H vs ds → noLAll ds = true → DpAll K (L2.upd H p o) vs ds
  | _, _, .nil, _ => .nil
  | _, _, .cons h r, e => by
    unfold noLAll at e
    obtain ⟨e1, e2⟩ := Bool.and_eq_true_iff.mp e
    exact .cons (Dp.upd hp h e1) (DpAll.upd hp r e2)
end
theorem noSeq_lst {xs : List V} : NoSeq (some (HO.lst xs)) := ⟨fun _ z => (nomatch z), fun _ _ z => (nomatch z)⟩
theorem noLAll_take : ∀ {xs : List PyData} (n : Nat), noLAll xs = true → noLAll (xs.take n) = true
  | _, 0, _ => rfl
  | [], _ + 1, _ => rfl
  | x :: xs, n + 1, h => by
    unfold noLAll at h
    obtain ⟨e1, e2⟩ := Bool.and_eq_true_iff.mp h
    show noLAll (x :: xs.take n) = true
    unfold noLAll
    rw [e1, noLAll_take n e2]
    rfl
theorem noLAll_get : ∀ {xs : List PyData} {i : Nat} {x : PyData}, noLAll xs = true → xs[i]? = some x → noL x = true
  | [], i, _, _, h => by simp at h
  | a :: xs, i, x, h, hi => by
    unfold noLAll at h
    obtain ⟨e1, e2⟩ := Bool.and_eq_true_iff.mp h
    cases i with
    | zero => simp at hi; subst hi; exact e1
    | succ i => exact noLAll_get e2 (by simpa using hi)

/-! ### comprehensions -/
def lcRun (set : PyData → DE → Option DE) (fe : DE → Option PyData) (ρ : DE) : List PyData → Option (List PyData)
  | [] => some []
  | x :: xs => (set x ρ).bind fun ρ1 => (fe ρ1).bind fun y => (lcRun set fe ρ xs).map (y :: ·)
@[simp] def fLc (fi : DE → Option (List PyData)) (set : PyData → DE → Option DE) (fe : DE → Option PyData) (vs : List Nat) : DE → Option PyData := fun ρ => (fi ρ).bind fun xs => if xs.length ≤ zBig then (lcRun set fe (wipeD ρ vs) xs).bind fun ys => if noLAll ys = true then some (.list ys) else none else none
theorem lcRun_get {set : PyData → DE → Option DE} {fe : DE → Option PyData} {ρ : DE} : ∀ {xs ys : List PyData}, lcRun set fe ρ xs = some ys → xs.length = ys.length ∧ ∀ (i : Nat) (x : PyData), xs[i]? = some x → ∃ ρ1 y, set x ρ = some ρ1 ∧ fe ρ1 = some y ∧ ys[i]? = some y
  | [], ys, h => by cases h; exact ⟨rfl, fun i x hi => by simp at hi⟩
  | x :: xs, ys, h => by
    unfold lcRun at h
    obtain ⟨ρ1, h1, h2⟩ := Option.bind_eq_some_iff.mp h
    obtain ⟨y, h3, h4⟩ := Option.bind_eq_some_iff.mp h2
    obtain ⟨zs, h5, rfl⟩ := Option.map_eq_some_iff.mp h4
    obtain ⟨h6, h7⟩ := lcRun_get h5
    refine ⟨by simp [h6], fun i x' hi => ?_⟩
    cases i with
    | zero =>
      simp at hi
      subst hi
      exact ⟨ρ1, y, h1, h3, rfl⟩
    | succ i =>
      obtain ⟨ρ2, y2, q1, q2, q3⟩ := h7 i x' (by simpa using hi)
      exact ⟨ρ2, y2, q1, q2, by simpa using q3⟩
theorem Same.mut {H H' : Hp} {p : Addr} {o : HO} (e : Same H H') (h : H p = none) : Same H (upd H' p o) := fun a u ha => by
  rw [upd_ne (ne_of_none ha h)]
  exact e a u ha
theorem d_lc {elt iter : Expr} {scope : Scope} {own : List (Str × Nat)} {gt : TG} {js : List Nat} {set : PyData → DE → Option DE} {fi : DE → Option (List PyData)} {fe : DE → Option PyData} (hN : X.N.Nodup) (hi : PI X tg iter (iD X.K fi)) (ok : BlkOk X.N X.env.scope scope own)
    (dg : DG X.K gt js set) (hjs : ∀ j ∈ js, j ∈ own.map (·.2))
    (hg : ∀ (s : Shared) (H : Hp) (C : Addr) (cl : List (Str × Addr)) (fp : List Addr), PG (X.blk s H scope (compEnvC scope cl C X.env) fp) tg gt)
    (he : ∀ (s : Shared) (H : Hp) (C : Addr) (cl : List (Str × Addr)) (fp : List Addr), PE (X.blk s H scope (compEnvC scope cl C X.env) fp) elt (tD X.K fe)) (hc : X.calm = true := by rfl) (hs : ∀ x, foldedSetIterable iter X.env x = pure x := by intro _; rfl) :
    PE X (.ListComp elt [⟨tg, iter, [], 0⟩] scope pos) (tD X.K (fLc fi set fe (own.map (·.2)))) := (pe_lc hc hN hi ok hg (fun _ _ _ _ _ => pts_nil) he hs).imp fun σ H Q ⟨ρ, d, hen, hf, q⟩ => by
  obtain ⟨xs, h1, h2⟩ := Option.bind_eq_some_iff.mp hf
  split at h2
  · rename_i hz
    obtain ⟨ys, h3, h2⟩ := Option.bind_eq_some_iff.mp h2
    split at h2 <;> first | (cases h2; done) | skip
    rename_i hnl
    cases h2
    obtain ⟨h4, h5⟩ := lcRun_get h3
    refine ⟨ρ, xs, hen, h1, fun J H1 s1 W D hD => ?_⟩
    refine ⟨fun i m H' => m = xs.length - i ∧ i ≤ xs.length ∧ Same H1 H' ∧ ∃ acc, H' D = some (.lst acc) ∧ DpAll X.K H' acc (ys.take i), ⟨xs.length, by simp, Nat.zero_le _, Same.new hD, [], upd_same, by rw [List.take_zero]; exact .nil⟩, ?_⟩
    rintro i m H' ⟨rfl, hi, s2, acc, hA, dA⟩
    by_cases hlt : i < xs.length
    · refine .inr ⟨W.go i H' s2 hlt, fun H3 => i + 1 ≤ xs.length ∧ Same H1 H3 ∧ ∃ acc, H3 D = some (.lst acc) ∧ DpAll X.K H3 acc (ys.take (i + 1)), fun H3 ⟨a, b, c⟩ => ⟨xs.length - (i + 1), by omega, rfl, a, b, c⟩, fun x H3 y => ?_⟩
      obtain ⟨s3, _, dx, h6, h7⟩ := W.yld i H' x H3 s2 y hlt
      obtain ⟨ρ1, z, h8, h9, h10⟩ := h5 i dx h6
      have e3 : EnvD X.K H3 (L2.wipe σ (own.map (·.2))) (wipeD ρ (own.map (·.2))) := (((hen.same s1).same s2).same s3).wipe _
      refine dg.run x dx _ H3 _ ρ1 _ e3 h7 h8 fun σ2 he2 hw => ⟨?_, ?_⟩
      · rw [hw _ hjs, wipe_wipe]
      · show ∃ ρ d, _
        refine ⟨ρ1, z, he2, h9, fun v H4 s4 d4 => ?_⟩
        have hA4 : H4 D = some (.lst acc) := s4 _ _ (s3 _ _ hA)
        have dA4 : DpAll X.K H4 acc (ys.take i) := dA.same (s3.trans s4)
        refine ⟨acc, hA4, ?_, hlt, ((s2.trans s3).trans s4).mut hD, acc ++ [v], upd_same, ?_⟩
        · rw [dA4.length, List.length_take]
          exact Nat.lt_of_lt_of_le (Nat.lt_of_le_of_lt (Nat.min_le_left _ _) hlt) (zBig_le hz)
        · have ns : NoSeq (H4 D) := by rw [hA4]; exact noSeq_lst
          have e5 : ys.take (i + 1) = ys.take i ++ [z] := by rw [List.take_add_one, h10]; rfl
          rw [e5]
          exact (DpAll.upd ns dA4 (noLAll_take i hnl)).append (.cons (Dp.upd ns d4 (noLAll_get hnl h10)) .nil)
    · have e : i = xs.length := by omega
      subst e
      refine .inl ⟨W.stop H' s2, q _ H' (s1.trans s2) ?_⟩
      rw [h4, List.take_length] at dA
      exact .lst (SqL.of hA) dA
  · cases h2
end
end L2
set_option maxHeartbeats 4000000
/-! PdF: for over data, tuple times int, split and join. -/
namespace L2
open PySem PySem.Spec PyProof.Rows
/-! ### tuple times 0 and 1 -/
theorem tuple_mulOne (l : Addr) (items : Array Value) (n : Nat) (dd : Option Addr) (sl : Array (Option Value)) (u : Tok) :
    Meets (Builtin.«tuple.__mul__» ⟨[.ref l, .int 1 u], []⟩) (fun _ R s => s.heap.get? l = some { cls := .type "tuple", dict := dd, data := .seq items n, slots := sl } ∧ R (.ok (.ret (Value.ref l))) s) :=
  .of_wp fun prog w A R s h => by
    obtain ⟨hp, g, d, tk, os⟩ := s
    obtain ⟨hl, h⟩ := h
    have f1 := AutoSeq1.idx_int
    wp_walk using wpAny_loadPart' hl
    repeat (first
      | (refine wpAny_ite_false (by decide) ?_; wp_walk using wpAny_loadPart' hl)
      | (refine wpAny_ite_true (by simp) ?_; wp_walk using wpAny_loadPart' hl))
    exact ⟨_, rfl, h⟩
theorem tuple_mulNil (l : Addr) (items : Array Value) (n : Nat) (dd : Option Addr) (sl : Array (Option Value)) (u : Tok) (hi : items.isEmpty = false) :
    Meets (Builtin.«tuple.__mul__» ⟨[.ref l, .int 0 u], []⟩) (fun _ R s => s.heap.get? l = some { cls := .type "tuple", dict := dd, data := .seq items n, slots := sl } ∧
      R (.ok (.ret (Value.ref s.heap.objs.size))) { s with heap := s.heap.push { cls := Value.type "tuple", data := Data.seq #[] }, toks := s.toks }) :=
  .of_wp fun prog w A R s h => by
    obtain ⟨hp, g, d, tk, os⟩ := s
    obtain ⟨hl, h⟩ := h
    have f1 := AutoSeq1.idx_int
    have c1 : (items.isEmpty || (0 : Int) == 1) = false := by rw [hi]; rfl
    wp_walk using wpAny_loadPart' hl
    repeat (first
      | (refine wpAny_ite_false (by decide) ?_; wp_walk using wpAny_loadPart' hl)
      | (refine wpAny_ite_false (decide_eq_false (by rw [c1]; exact Bool.false_ne_true)) ?_; wp_walk using wpAny_loadPart' hl)
      | (refine wpAny_ite_true (by simp) ?_; wp_walk using wpAny_loadPart' hl))
    exact ⟨_, rfl, h⟩
section
variable {X : Cx}
def rRep1 (K : PySem.W.Frag) : R2 := fun x y H Q => ∃ l xs, x = .ref l ∧ y = .int 1 ∧ SqT K H l xs ∧ xs ≠ [] ∧ Q (.ref l) H
def rRep0 (K : PySem.W.Frag) : R2 := fun x y H Q => ∃ l xs, x = .ref l ∧ y = .int 0 ∧ SqT K H l xs ∧ xs ≠ [] ∧ ∀ p, H p = none → Q (.ref p) (upd H p (.tup []))
theorem op_rep1 : OpR X (binaryOp .Mult) (rRep1 X.K) := by
  intro pins s σ H x y v u Q I rx ry h
  obtain ⟨l, xs, rfl, rfl, hT, hne, q⟩ := h
  cases rx
  obtain ⟨t, rfl⟩ := ry
  obtain ⟨its, r, ⟨⟨cls, dd, data, sl⟩, ho, hc, n, hd⟩, hs⟩ := I.tuple hT
  simp only at hc hd
  subst hc hd
  exact wpAny_binaryOp_repeat_ref (T := "tuple") (U := "int") (by decide) ⟨_, ho, rfl⟩ (fun s' => typeIs_int s' 1 t) noFill_tuple_mul F.fills_int_mul F.slot_int_rmul repeat_tuple F.slot_int_index.lookup
    (call_meets F.slot_int_rmul (typeIs_int s 1 t) F.entry_int_rmul (F.args_int_rmul_2 _ _) (int_rmul_tuple 1 t l its.toArray n dd sl)
      ⟨ho, rfl, ⟨_, ho, rfl⟩, call_meets F.slot_tuple_mul ⟨_, ho, rfl⟩ F.entry_tuple_mul (F.args_tuple_mul_2 _ _) (tuple_mulOne l its.toArray n dd sl t) ⟨ho, .ref l, H, I, rfl, q⟩⟩)
theorem op_rep0 : OpR X (binaryOp .Mult) (rRep0 X.K) := by
  intro pins s σ H x y v u Q I rx ry h
  obtain ⟨l, xs, rfl, rfl, hT, hne, q⟩ := h
  cases rx
  obtain ⟨t, rfl⟩ := ry
  obtain ⟨its, r, ⟨⟨cls, dd, data, sl⟩, ho, hc, n, hd⟩, hs⟩ := I.tuple hT
  simp only at hc hd
  subst hc hd
  have hi : its.toArray.isEmpty = false := by
    cases its with
    | nil =>
      cases r
      exact absurd rfl hne
    | cons a b => rfl
  refine wpAny_binaryOp_repeat_ref (T := "tuple") (U := "int") (by decide) ⟨_, ho, rfl⟩ (fun s' => typeIs_int s' 0 t) noFill_tuple_mul F.fills_int_mul F.slot_int_rmul repeat_tuple F.slot_int_index.lookup
    (call_meets F.slot_int_rmul (typeIs_int s 0 t) F.entry_int_rmul (F.args_int_rmul_2 _ _) (int_rmul_tuple 0 t l its.toArray n dd sl)
      ⟨ho, rfl, ⟨_, ho, rfl⟩, call_meets F.slot_tuple_mul ⟨_, ho, rfl⟩ F.entry_tuple_mul (F.args_tuple_mul_2 _ _) (tuple_mulNil l its.toArray n dd sl t hi) ⟨ho, ?_⟩⟩)
  refine ⟨.ref s.heap.objs.size, _, I.laid (t' := s.toks) (o := .tup []) (fun b ob q => Heap.get?_push_of_some _ q) (Nat.le_refl _) ?_, rfl, q _ (I.hok.fresh (Nat.le_refl _))⟩
  exact ⟨by decide, [], .nil, IsTup.new _ _⟩
def gMulT : PyData → PyData → Option PyData
  | .tuple xs, .int k => if xs ≠ [] ∧ 0 ≤ k ∧ k ≤ 1000 ∧ xs.length ≤ 1000 then some (.tuple (List.replicate k.toNat xs).flatten) else none
  | _, _ => none
@[simp] theorem gMulT_tup (xs : List PyData) (k : Int) : gMulT (.tuple xs) (.int k) = if xs ≠ [] ∧ 0 ≤ k ∧ k ≤ 1000 ∧ xs.length ≤ 1000 then some (.tuple (List.replicate k.toNat xs).flatten) else none := by cases xs <;> rfl
abbrev rMulT (K : PySem.W.Frag) : R2 := fun x y H Q => rRep0 K x y H Q ∨ (rRep1 K x y H Q ∨ rRepT K x y H Q)
theorem op_mulT : OpR X (binaryOp .Mult) (rMulT X.K) := op_rep0.or (op_rep1.or op_repT)
theorem DpAll.rep {K : PySem.W.Frag} {H : Hp} {vs : List V} {ds : List PyData} (h : DpAll K H vs ds) : ∀ k : Nat, DpAll K H (List.replicate k vs).flatten (List.replicate k ds).flatten
  | 0 => .nil
  | k + 1 => by
    rw [List.replicate_succ, List.replicate_succ, List.flatten_cons, List.flatten_cons]
    exact h.append (DpAll.rep h k)
theorem ov_mulT {K : PySem.W.Frag} : OpD K (rMulT K) gMulT := by
  intro x y a b d H Q ha hb e q
  cases hb <;> first | (cases a <;> cases e; done) | skip
  rename_i k
  cases ha <;> first | (cases e; done) | skip
  rename_i p xs ds hx dx
  have e1 : (if ds ≠ [] ∧ 0 ≤ k ∧ k ≤ 1000 ∧ ds.length ≤ 1000 then some (PyData.tuple (List.replicate k.toNat ds).flatten) else none) = some d := by
    cases ds <;> exact e
  split at e1
  · rename_i hz
    cases e1
    have hne : xs ≠ [] := fun e0 => hz.1 (by subst e0; cases dx; rfl)
    by_cases h0 : k = 0
    · subst h0
      exact .inl ⟨p, xs, rfl, rfl, hx, hne, fun r hr => q _ _ (Same.new hr) (.tup (SqT.of upd_same) .nil)⟩
    · by_cases h1 : k = 1
      · subst h1
        refine .inr (.inl ⟨p, xs, rfl, rfl, hx, hne, q _ H (Same.refl H) ?_⟩)
        have e2 : (List.replicate (Int.toNat 1) ds).flatten = ds := by simp
        rw [e2]
        exact .tup hx dx
      · exact .inr (.inr ⟨p, k, xs, rfl, rfl, hx, hne, by omega, hz.2.2.1, by rw [dx.length]; exact hz.2.2.2, fun r hr => q _ _ (Same.new hr) (.tup (SqT.of upd_same) ((dx.rep _).same (Same.new hr)))⟩)
  · cases e1
end

/-! ### for over data -/
section
variable {K : PySem.W.Frag} {X : Cx} {e e2 e3 tg : Expr} {es rest : List Expr} {pos : Pos} {f g h : DE → Option PyData} {fs : DE → Option (List PyData)} {F G : DE → Option DR}
def forRun (set : PyData → DE → Option DE) (Fb : DE → Option DR) : DE → List PyData → Option DR
  | ρ, [] => some (.nx ρ)
  | ρ, x :: xs => (set x ρ).bind fun ρ1 => (Fb ρ1).bind fun r => thenR (fun ρ2 => forRun set Fb ρ2 xs) r
@[simp] def sFor (fi : DE → Option (List PyData)) (set : PyData → DE → Option DE) (Fb : DE → Option DR) : DE → Option DR := fun ρ => (fi ρ).bind fun xs => forRun set Fb ρ xs
theorem s_for {iter : Expr} {body : List Stmt} {gt : TG} {js : List Nat} {set : PyData → DE → Option DE} {fi : DE → Option (List PyData)} (hp : PassesOwn (model X.prog X.w) X.A X.env X.xe) (hi : PI X tg iter (iD X.K fi)) (hg : PG X tg gt) (dg : DG X.K gt js set)
    (hb : PSs X body (tDS X.K F)) (hc : X.calm = true := by rfl) (hs : ∀ x, foldedSetIterable iter X.env x = pure x := by intro _; rfl) : PS X (.For tg iter body [] pos) (tDS X.K (sFor fi set F)) := PS.imp (ps_for hp hc hi hg hb hs) fun D σ H ⟨ρ, r, hen, hf, q1, q2⟩ => by
  obtain ⟨xs, h1, h2⟩ := Option.bind_eq_some_iff.mp hf
  refine ⟨ρ, xs, hen, h1, fun J H1 s1 W => ?_⟩
  refine ⟨fun i m σ' H' => m = xs.length - i ∧ i ≤ xs.length ∧ Same H1 H' ∧ ∃ ρi, EnvD X.K H' σ' ρi ∧ forRun set F ρi (xs.drop i) = some r, ⟨xs.length, by simp, Nat.zero_le _, Same.refl _, ρ, hen.same s1, h2⟩, ?_⟩
  rintro i m σ' H' ⟨rfl, hi, s2, ρi, he2, hr⟩
  by_cases hlt : i < xs.length
  · have e1 : xs.drop i = xs[i] :: xs.drop (i + 1) := List.drop_eq_getElem_cons hlt
    rw [e1] at hr
    unfold forRun at hr
    obtain ⟨ρ1, h3, h4⟩ := Option.bind_eq_some_iff.mp hr
    obtain ⟨r1, h5, h6⟩ := Option.bind_eq_some_iff.mp h4
    refine .inr ⟨W.go i H' s2 hlt, fun σ3 H3 => i + 1 ≤ xs.length ∧ Same H1 H3 ∧ ∃ ρj, EnvD X.K H3 σ3 ρj ∧ forRun set F ρj (xs.drop (i + 1)) = some r, fun σ3 H3 ⟨a, b, c⟩ => ⟨xs.length - (i + 1), by omega, rfl, a, b, c⟩, fun x H3 y => ?_⟩
    obtain ⟨s3, _, dx, h7, h8⟩ := W.yld i H' x H3 s2 y hlt
    rw [List.getElem?_eq_getElem hlt] at h7
    cases h7
    refine dg.run x _ σ' H3 ρi ρ1 _ (he2.same s3) h8 h3 fun σ4 he4 _ => ?_
    refine ⟨ρ1, r1, he4, h5, fun ρ2 e2 σ5 H5 s5 he5 => ?_, fun d e2 v H5 s5 d5 => ?_⟩
    · subst e2
      exact ⟨hlt, (s2.trans s3).trans s5, ρ2, he5, h6⟩
    · subst e2
      cases h6
      exact q2 d rfl v H5 (((s1.trans s2).trans s3).trans s5) d5
  · have e : i = xs.length := by omega
    subst e
    rw [List.drop_length] at hr
    cases hr
    exact .inl ⟨W.stop H' s2, q1 _ rfl _ _ (s1.trans s2) he2⟩

theorem d_neg {i : Int} {j p1} : PE X (.UnaryOp .USub (.Constant (.int i) j p1) pos) (tD X.K (fC (.int (-i)))) := (pe_un un_neg pe_int).imp fun σ H Q ⟨ρ, d, he, hf, q⟩ => by
  cases hf
  exact ⟨i, rfl, q _ H (Same.refl H) (.int _)⟩

@[simp] def sExp (f : DE → Option PyData) : DE → Option DR := fun ρ => (f ρ).map fun _ => .nx ρ
theorem s_exp (he : PE X e (tD X.K f)) (hs : swapsWith e none pos.line X.env = pure false := by rfl) : PS X (.Expr e pos) (tDS X.K (sExp f)) := PS.imp (ps_expr he hs) fun D σ H ⟨ρ, r, hen, hf, q1, q2⟩ => by
  obtain ⟨d, h1, rfl⟩ := Option.map_eq_some_iff.mp hf
  exact ⟨ρ, d, hen, h1, fun v H1 s1 d1 => q1 _ rfl σ H1 s1 (hen.same s1)⟩

/-! ### texts -/
def strs? : List PyData → Option (List Str)
  | [] => some []
  | .str x :: r => (strs? r).map (x :: ·)
  | _ :: _ => none
@[simp] theorem strs_map (xs : List Str) : strs? (xs.map PyData.str) = some xs := by
  induction xs with
  | nil => rfl
  | cons a r ih => simp [strs?, ih]
theorem strs_some {H : Hp} : ∀ {vs : List V} {ds : List PyData} {xs : List Str}, DpAll K H vs ds → strs? ds = some xs → vs = xs.map V.str
  | _, _, _, .nil, h => by cases h; rfl
  | _, _, _, .cons (.str b) r, h => by
    unfold strs? at h
    obtain ⟨m, h1, rfl⟩ := Option.map_eq_some_iff.mp h
    rw [strs_some r h1]
    rfl
  | _, _, _, .cons .non _, h => by cases h
  | _, _, _, .cons (.int _) _, h => by cases h
  | _, _, _, .cons (.bl _) _, h => by cases h
  | _, _, _, .cons (.lst _ _) _, h => by cases h
  | _, _, _, .cons (.tup _ _) _, h => by cases h
theorem DpAll.of_strs {H : Hp} : ∀ (xs : List Str), DpAll K H (xs.map V.str) (xs.map PyData.str)
  | [] => .nil
  | n :: ns => .cons (.str n) (DpAll.of_strs ns)
def gJoin : PyData → PyData → Option PyData
  | .str a, .list ds => (strs? ds).bind fun ys => if (ys.map (·.length)).sum + ys.length * a.length ≤ zBig then some (.str (Txt.join a ys)) else none
  | _, _ => none
@[simp] theorem gJoin_str (a : Str) (ds : List PyData) : gJoin (.str a) (.list ds) = (strs? ds).bind fun ys => if (ys.map (·.length)).sum + ys.length * a.length ≤ zBig then some (.str (Txt.join a ys)) else none := rfl
def gSplit : PyData → PyData → Option PyData
  | .str a, .str b => if (b.length == 0) = false ∧ a.length + 2 ≤ zBig then some (.list ((Txt.split a b).map .str)) else none
  | _, _ => none
@[simp] theorem gSplit_str (a b : Str) : gSplit (.str a) (.str b) = if (b.length == 0) = false ∧ a.length + 2 ≤ zBig then some (.list ((Txt.split a b).map .str)) else none := rfl
theorem d_join {o : Expr} {apos : Pos} (ho : PE X o (tD X.K f)) (he : PE X e (tD X.K g)) (hs : starEach [e] X.env = [(false, eval e X.env)] := by rfl) (hbase : attributeBase o "join" X.env (eval o X.env) = eval o X.env := by rfl) (hline : (apos.endLine == pos.line) = true := by rfl) :
    PE X (.Call (.Attribute o "join" apos) [e] [] pos) (tD X.K (f2 gJoin f g)) := (pe_join ho he hs hbase hline).imp fun σ H Q ⟨ρ, d, hen, hf, q⟩ => by
  obtain ⟨x, y, h1, h2, h3⟩ := f2_some hf
  refine ⟨ρ, x, hen, h1, fun v H1 s1 d1 => ?_⟩
  cases d1 <;> first | (cases h3; done) | skip
  rename_i a
  refine ⟨⟨a, rfl⟩, ρ, y, hen.same s1, h2, fun u H2 s2 d2 => ?_⟩
  cases d2 <;> first | (cases h3; done) | skip
  rename_i p vs ds hx dx
  obtain ⟨ys, h4, h5⟩ := Option.bind_eq_some_iff.mp (show (strs? ds).bind _ = some d from h3)
  split at h5
  · rename_i hz
    cases h5
    rw [strs_some dx h4] at hx
    exact ⟨a, p, ys, rfl, rfl, .inl hx, Nat.le_trans hz (by decide), q _ H2 (s1.trans s2) (.str _)⟩
  · cases h5
theorem d_split {o : Expr} {apos : Pos} (ho : PE X o (tD X.K f)) (he : PE X e (tD X.K g)) (hs : starEach [e] X.env = [(false, eval e X.env)] := by rfl) (hbase : attributeBase o "split" X.env (eval o X.env) = eval o X.env := by rfl) (hline : (apos.endLine == pos.line) = true := by rfl) :
    PE X (.Call (.Attribute o "split" apos) [e] [] pos) (tD X.K (f2 gSplit f g)) := (pe_split ho he hs hbase hline).imp fun σ H Q ⟨ρ, d, hen, hf, q⟩ => by
  obtain ⟨x, y, h1, h2, h3⟩ := f2_some hf
  refine ⟨ρ, x, hen, h1, fun v H1 s1 d1 => ?_⟩
  cases d1 <;> first | (cases h3; done) | skip
  rename_i a
  refine ⟨⟨a, rfl⟩, ρ, y, hen.same s1, h2, fun u H2 s2 d2 => ?_⟩
  cases d2 <;> first | (cases h3; done) | skip
  rename_i b
  have h5 : (if (b.length == 0) = false ∧ a.length + 2 ≤ zBig then some (PyData.list ((Txt.split a b).map .str)) else none) = some d := h3
  split at h5
  · rename_i hz
    cases h5
    exact ⟨a, b, rfl, rfl, hz.1, zBig_le hz.2, fun p hp => q _ _ ((s1.trans s2).trans (Same.new hp)) (.lst (SqL.of upd_same) (DpAll.of_strs _))⟩
  · cases h5
end
end L2
set_option maxHeartbeats 4000000
/-! PdG: chains of comparisons, signs of texts, int(text) over plain data. -/
namespace L2
open PySem PySem.Spec PyProof.Rows
section
variable {K : PySem.W.Frag} {X : Cx} {e e2 e3 tg : Expr} {pos : Pos} {fa fb fc f : DE → Option PyData}
@[simp] def fChain (g1 g2 : PyData → PyData → Option PyData) (fa fb fc : DE → Option PyData) : DE → Option PyData := fun ρ => (fa ρ).bind fun x => (fb ρ).bind fun y => (g1 x y).bind fun z => condB z ((fc ρ).bind fun u => g2 y u) (some (.bool false))
theorem chain_some {g1 g2 : PyData → PyData → Option PyData} {ρ : DE} {d : PyData} (h : fChain g1 g2 fa fb fc ρ = some d) : ∃ x y k, fa ρ = some x ∧ fb ρ = some y ∧ g1 x y = some (.bool k) ∧ (if k = true then ∃ u, fc ρ = some u ∧ g2 y u = some d else d = .bool false) := by
  unfold fChain at h
  obtain ⟨x, h1, h⟩ := Option.bind_eq_some_iff.mp h
  obtain ⟨y, h2, h⟩ := Option.bind_eq_some_iff.mp h
  obtain ⟨z, h3, h⟩ := Option.bind_eq_some_iff.mp h
  cases z <;> first | (cases h; done) | skip
  rename_i k
  refine ⟨x, y, k, h1, h2, h3, ?_⟩
  rw [condB_bool] at h
  cases k with
  | true =>
    rw [if_pos rfl] at h ⊢
    exact Option.bind_eq_some_iff.mp h
  | false =>
    rw [if_neg Bool.false_ne_true] at h ⊢
    cases h
    rfl
theorem chain_run {r r' : R2} {g1 g2 : PyData → PyData → Option PyData} (o1 : OpD K r g1) (o2 : OpD K r' g2) {σ : St} {H : Hp} {Q : VK} (h : tD K (fChain g1 g2 fa fb fc) σ H Q) : tChain r r' (tD K fa) (tD K fb) (tD K fc) σ H Q := by
  obtain ⟨ρ, d, he, hf, q⟩ := h
  obtain ⟨x, y, k, h1, h2, h3, h4⟩ := chain_some hf
  refine ⟨ρ, x, he, h1, fun v H1 s1 d1 => ⟨ρ, y, he.same s1, h2, fun u H2 s2 d2 => o1 v u x y _ H2 _ (d1.same s2) d2 h3 fun z H3 s3 d3 => ?_⟩⟩
  cases d3
  refine ⟨k, rfl, ?_⟩
  have s13 := (s1.trans s2).trans s3
  cases k with
  | true =>
    rw [if_pos rfl] at h4 ⊢
    obtain ⟨w, h5, h6⟩ := h4
    exact ⟨ρ, w, he.same s13, h5, fun t H4 s4 d4 => o2 u t y w d H4 Q ((d2.same s3).same s4) d4 h6 fun z H5 s5 d5 => q z H5 ((s13.trans s4).trans s5) d5⟩
  | false =>
    rw [if_neg Bool.false_ne_true] at h4 ⊢
    subst h4
    exact q _ H3 s13 (.bl _)
theorem d_chain {op op' : CmpOp} {r r' : R2} {g1 g2 : PyData → PyData → Option PyData} (ho : OpR X (compareOp op) r) (o1 : OpD X.K r g1) (ho' : OpR X (compareOp op') r') (o2 : OpD X.K r' g2) (ha : PE X e (tD X.K fa)) (hb : PE X e2 (tD X.K fb)) (hc : PE X e3 (tD X.K fc))
    (hm : lastMarks [op, op'] [e2, e3] = false := by with_unfolding_all rfl) : PE X (.Compare e [op, op'] [e2, e3] pos) (tD X.K (fChain g1 g2 fa fb fc)) := (pe_chain ho ho' ha hb hc hm).imp fun _ _ _ h => chain_run o1 o2 h
theorem t_chain {op op' : CmpOp} {r r' : R2} {g1 g2 : PyData → PyData → Option PyData} (ho : OpR X (compareOp op) r) (o1 : OpD X.K r g1) (ho' : OpR X (compareOp op') r') (o2 : OpD X.K r' g2) (ha : PE X e (tD X.K fa)) (hb : PE X e2 (tD X.K fb)) (hc : PE X e3 (tD X.K fc))
    (hm : lastMarks [op, op'] [e2, e3] = false := by with_unfolding_all rfl) : PT X (.Compare e [op, op'] [e2, e3] pos) (tDT X.K (fT (fChain g1 g2 fa fb fc))) := (pt_chain ho ho' ha hb hc hm).imp fun σ H Q h => by
  obtain ⟨ρ, b, he, hf, q⟩ := h
  exact chain_run o1 o2 ⟨ρ, .bool b, he, fT_some hf, fun v H' s d => ⟨b, dp_bl' d, q H' s⟩⟩
where
  dp_bl' {K : PySem.W.Frag} {H : Hp} {v : V} {b : Bool} (h : Dp K H v (.bool b)) : v = .bl b := by cases h; rfl

/-! ### a sign in a text -/
def gSign : PyData → PyData → Option PyData
  | .str c, .str z => (match c.cps.toList with
    | [k] => some (.bool (decide (k ∈ z.cps.toList)))
    | _ => none)
  | _, _ => none
theorem ov_inS : OpD K (fun x y H Q => ∃ (c : Nat) (z : Str), x = .str ⟨#[c]⟩ ∧ y = .str z ∧ Q (.bl (decide (c ∈ z.cps.toList))) H) gSign := by
  intro x y a b d H Q ha hb e q
  cases ha <;> cases hb <;> first | (cases e; done) | skip
  rename_i c z
  have e1 : (match c.cps.toList with
    | [k] => some (PyData.bool (decide (k ∈ z.cps.toList)))
    | _ => none) = some d := e
  split at e1
  · rename_i k hk
    cases e1
    refine ⟨k, z, ?_, rfl, q _ H (Same.refl H) (.bl _)⟩
    congr 1
    exact Str.ext' (Array.toList_inj.mp hk)
  · cases e1
/-- the signs of a text -/
def signsD (x : Str) : List PyData := x.cps.toList.map fun c => .str ⟨#[c]⟩
def asStr : PyData → Option (List PyData)
  | .str x => some (signsD x)
  | _ => none
@[simp] theorem asStr_str (x : Str) : asStr (.str x) = some (signsD x) := rfl
@[simp] def fItemsS (f : DE → Option PyData) : DE → Option (List PyData) := fun ρ => (f ρ).bind asStr
theorem walk_str {H : Hp} (x : Str) : WalkD K (Its x) H (signsD x) where
  go := fun i H2 s hi => by
    have : i < x.cps.toList.length := by simpa [signsD] using hi
    show i < x.cps.size
    simpa using this
  stop := fun H2 s => by
    show x.cps.size ≤ (signsD x).length
    simp [signsD]
  yld := fun i H2 v H3 s y hi => by
    obtain ⟨rfl, c, hc, rfl⟩ := y
    refine ⟨Same.refl _, fun a o h => .inl h, .str ⟨#[c]⟩, ?_, .str _⟩
    unfold signsD
    rw [List.getElem?_map, Array.getElem?_toList, hc]
    rfl
theorem i_str (he : PE X e (tD X.K f)) : PI X tg e (iD X.K (fItemsS f)) := PI.imp (pi_str he) fun σ H R ⟨ρ, xs, hen, hf, q⟩ => by
  obtain ⟨d, h1, h2⟩ := Option.bind_eq_some_iff.mp hf
  refine ⟨ρ, d, hen, h1, fun v H1 s1 d1 => ?_⟩
  cases d1 <;> first | (cases h2; done) | skip
  rename_i x
  cases h2
  exact ⟨x, rfl, q _ H1 s1 (walk_str x)⟩
/-! ### int(text) -/
def gIntS : List PyData → Option PyData
  | [.str a] => if a.length ≤ 640 then (PySem.intText? a).map .int else none
  | _ => none
theorem cv_intS : CD K (fun xs H Q => ∃ a n, xs = [V.str a] ∧ PySem.intText? a = some n ∧ a.length ≤ 640 ∧ Q (.int n) H) gIntS := by
  intro vs ds d H Q hd e q
  cases hd with
  | nil => cases e
  | cons h1 h2 =>
    cases h2 with
    | cons _ _ => cases h1 <;> cases e
    | nil =>
      cases h1 <;> first | (cases e; done) | skip
      rename_i a
      have e1 : (if a.length ≤ 640 then (PySem.intText? a).map PyData.int else none) = some d := e
      split at e1
      · rename_i hz
        obtain ⟨n, h3, rfl⟩ := Option.map_eq_some_iff.mp e1
        exact ⟨a, n, rfl, h3, hz, q _ H (Same.refl H) (.int _)⟩
      · cases e1
end
end L2
set_option maxHeartbeats 4000000
/-! Enc: wells, states, claims as typed things and as plain data; functions told by typed arguments; the text's own facts. -/
namespace Pm
open PySem PySem.Spec PyProof.Rows L2

/-! ### wells, states -/
structure Wl where
  top : Int
  drain : Int
  on : Int
  off : Int
  run : Int
  rest : Int
  starts : Int
  step : Int
  lag : Int
  deriving DecidableEq
structure Sst where
  lv : Int
  past : List Int
  runs : List Int
  rests : List Int
  ready : Option Int
  deriving DecidableEq
inductive Rs where
  | over
  | dry
  | st (s : Sst)
  deriving DecidableEq
structure Cl where
  w : Wl
  lo : Int
  hi : Int
  frm : Int
  to : Int
  deriving DecidableEq
def sOver : Str := "over"
def sDry : Str := "dry"
def sSafe : Str := "safe"
def encI (ns : List Int) : PyData := .tuple (ns.map .int)
def encO : Option Int → PyData
  | none => .none
  | some n => .int n
def encW (w : Wl) : PyData := .tuple [.int w.top, .int w.drain, .int w.on, .int w.off, .int w.run, .int w.rest, .int w.starts, .int w.step, .int w.lag]
def encS (s : Sst) : PyData := .tuple [.int s.lv, encI s.past, encI s.runs, encI s.rests, encO s.ready]
def encR : Rs → PyData
  | .over => .str sOver
  | .dry => .str sDry
  | .st s => encS s
def encC (c : Cl) : PyData := .tuple [encW c.w, .tuple [.int c.lo, .int c.hi], .tuple [.int c.frm, .int c.to]]
theorem map_int_inj {a b : List Int} (h : a.map PyData.int = b.map PyData.int) : a = b := by
  have e := intsOf_map a
  rw [h, intsOf_map] at e
  exact (Option.some.inj e).symm
theorem encI_inj {a b : List Int} (h : encI a = encI b) : a = b := by
  unfold encI at h
  injection h with h
  exact map_int_inj h
theorem encO_inj {a b : Option Int} (h : encO a = encO b) : a = b := by
  cases a <;> cases b <;> simp [encO] at h ⊢
  exact h
theorem encW_inj {a b : Wl} (h : encW a = encW b) : a = b := by
  cases a; cases b
  simp [encW] at h
  obtain ⟨h1, h2, h3, h4, h5, h6, h7, h8, h9⟩ := h
  subst h1 h2 h3 h4 h5 h6 h7 h8 h9
  rfl
theorem encS_inj {a b : Sst} (h : encS a = encS b) : a = b := by
  cases a; cases b
  unfold encS at h
  injection h with h
  injection h with h1 h
  injection h with h2 h
  injection h with h3 h
  injection h with h4 h
  injection h with h5 h
  injection h1 with h1
  simp only at h1 h2 h3 h4 h5
  rw [h1, encI_inj h2, encI_inj h3, encI_inj h4, encO_inj h5]
theorem encC_inj {a b : Cl} (h : encC a = encC b) : a = b := by
  cases a; cases b
  simp [encC] at h
  obtain ⟨h1, ⟨h2, h3⟩, h4, h5⟩ := h
  have := encW_inj h1
  subst this h2 h3 h4 h5
  rfl

/-! ### functions told by typed arguments -/
open Classical in
noncomputable def mkF {α : Type} (P : α → Prop) (enc : α → List PyData) (out : α → PyData) : List PyData → Option PyData := fun ds => if h : ∃ a, P a ∧ enc a = ds then some (out h.choose) else none
theorem mkF_eq {α : Type} {P : α → Prop} {enc : α → List PyData} {out : α → PyData} (inj : ∀ a b, enc a = enc b → a = b) {a : α} (h : P a) : mkF P enc out (enc a) = some (out a) := by
  have hx : ∃ b, P b ∧ enc b = enc a := ⟨a, h, rfl⟩
  unfold mkF
  rw [dif_pos hx]
  have e := inj _ _ hx.choose_spec.2
  rw [e]
theorem mkF_some {α : Type} {P : α → Prop} {enc : α → List PyData} {out : α → PyData} {ds : List PyData} {d : PyData} (h : mkF P enc out ds = some d) : ∃ a, P a ∧ enc a = ds ∧ out a = d := by
  unfold mkF at h
  split at h
  · rename_i hx
    exact ⟨hx.choose, hx.choose_spec.1, hx.choose_spec.2, Option.some.inj h⟩
  · cases h

/-! ### the text -/
/-- names of built-ins, constants -/
structure Tx (mg : Str → Option Value) : Prop where
  b_isinstance : mg "isinstance" = none
  b_int : mg "int" = none
  b_bool : mg "bool" = none
  b_str : mg "str" = none
  b_tuple : mg "tuple" = none
  b_list : mg "list" = none
  b_dict : mg "dict" = none
  b_len : mg "len" = none
  b_sum : mg "sum" = none
  b_min : mg "min" = none
  b_max : mg "max" = none
  b_all : mg "all" = none
  b_range : mg "range" = none
  b_zip : mg "zip" = none
  b_sorted : mg "sorted" = none
  b_repr : mg "repr" = none
  b_enumerate : mg "enumerate" = none
  b_super : mg "super" = none
  c_MOST_TOP : ∃ t, mg "MOST_TOP" = some (.int 200 t)
  c_MOST_DRAIN : ∃ t, mg "MOST_DRAIN" = some (.int 50 t)
  c_MOST_AGE : ∃ t, mg "MOST_AGE" = some (.int 5 t)
  c_MOST_STARTS : ∃ t, mg "MOST_STARTS" = some (.int 5 t)
  c_MOST_STEP : ∃ t, mg "MOST_STEP" = some (.int 20 t)
  c_MOST_LAG : ∃ t, mg "MOST_LAG" = some (.int 3 t)
  c_MOST_NUMBER : ∃ t, mg "MOST_NUMBER" = some (.int 50 t)
  c_MOST_COUNT : ∃ t, mg "MOST_COUNT" = some (.int 1000 t)
  c_MOST_INFLOW : ∃ t, mg "MOST_INFLOW" = some (.int 300 t)
  c_MOST_STATES : ∃ t, mg "MOST_STATES" = some (.int 20000 t)
  c_MOST_FIGURES : ∃ t, mg "MOST_FIGURES" = some (.int 31 t)
  c_MANY_LINES : ∃ t, mg "MANY_LINES" = some (.int 3 t)
  c_OVER : ∃ t, mg "OVER" = some (.str "over" t)
  c_DRY : ∃ t, mg "DRY" = some (.str "dry" t)
  c_SAFE : ∃ t, mg "SAFE" = some (.str "safe" t)
  c_BOTH : ∃ t, mg "BOTH" = some (.str "both" t)
  c_LINE_END : ∃ t, mg "LINE_END" = some (.str "\n" t)
  c_BLANK : ∃ t, mg "BLANK" = some (.str " " t)
  c_DIGITS : ∃ t, mg "DIGITS" = some (.str "0123456789" t)
  c_NO : ∃ t, mg "NO" = some (.str "no" t)
  c_NONE : ∃ t, mg "NONE" = some (.str "none" t)
  c_DONE : ∃ t, mg "DONE" = some (.str "done" t)
  c_BAR : ∃ t, mg "BAR" = some (.str "|" t)
  c_ENDLESS : ∃ t, mg "ENDLESS" = some (.str "endless" t)
/-- a def of the module, bound and callable -/
theorem fnD_of {P : Program} {w : World} {K : PySem.W.Frag} {mg : Str → Option Value} {base : Heap} {k : Nat} {x : Str} {st : Stmt} {gg : List PyData → Option PyData} {a : Addr} {fd : FuncData} {ps : List Str} (F : Fun K x x st a fd) (hm : mg x = some (.ref a))
    (b : ∀ (kV doc pm : Value) (an : Option Addr) (cdv ct : Value) (us : List Value), us.length = ps.length → bindArgs (PySem.W.fnOf x x (defArgs st) (defBody st) (defScope st) .none kV doc pm an cdv ct) ⟨us, []⟩ = pure (ps.zip us))
    (G : FnOk P w K mg base CX0 k a fd ps (spF gg K)) : FnD P w K mg base k x gg := ⟨a, fd, ps, hm, F.kp, F.binds b, G⟩
theorem Room.u66 {k : Nat} {A : Around} (r : Room k A) : A.units + 66 < cLine := by have := r.un; omega
end Pm
namespace L2
theorem Room.u66 {k : Nat} {A : PySem.Around} (r : Room k A) : A.units + 66 < PySem.cLine := by have := r.un; omega
end L2
set_option maxHeartbeats 4000000
/-! Mth: what the defs compute, over typed things; small facts about lists of data. -/
namespace Pm
open PySem PySem.Spec PyProof.Rows L2

/-! ### places -/
@[simp] theorem atI_z {α : Type} (x : α) (xs : List α) : atI (x :: xs) 0 = some x := by simp [atI, ixN]
theorem atI_nat' {α : Type} (xs : List α) (i : Int) (j : Nat) (h : i = j) : atI xs i = xs[j]? := by
  subst h
  unfold atI ixN
  by_cases hl : j < xs.length
  · rw [if_pos (by omega), if_pos (by omega)]
    simp
  · rw [if_pos (by omega), if_neg (by omega), List.getElem?_eq_none (by omega)]
    rfl
@[simp] theorem atI_1 {α : Type} (a b : α) (xs : List α) : atI (a :: b :: xs) 1 = some b := atI_nat' _ 1 1 rfl
@[simp] theorem atI_2 {α : Type} (a b c : α) (xs : List α) : atI (a :: b :: c :: xs) 2 = some c := atI_nat' _ 2 2 rfl
@[simp] theorem atI_3 {α : Type} (a b c d : α) (xs : List α) : atI (a :: b :: c :: d :: xs) 3 = some d := atI_nat' _ 3 3 rfl
@[simp] theorem atI_4 {α : Type} (a b c d e : α) (xs : List α) : atI (a :: b :: c :: d :: e :: xs) 4 = some e := atI_nat' _ 4 4 rfl
@[simp] theorem atI_5 {α : Type} (a b c d e f : α) (xs : List α) : atI (a :: b :: c :: d :: e :: f :: xs) 5 = some f := atI_nat' _ 5 5 rfl
@[simp] theorem atI_6 {α : Type} (a b c d e f g : α) (xs : List α) : atI (a :: b :: c :: d :: e :: f :: g :: xs) 6 = some g := atI_nat' _ 6 6 rfl
@[simp] theorem atI_7 {α : Type} (a b c d e f g h : α) (xs : List α) : atI (a :: b :: c :: d :: e :: f :: g :: h :: xs) 7 = some h := atI_nat' _ 7 7 rfl
@[simp] theorem atI_8 {α : Type} (a b c d e f g h i : α) (xs : List α) : atI (a :: b :: c :: d :: e :: f :: g :: h :: i :: xs) 8 = some i := atI_nat' _ 8 8 rfl
theorem atI_neg {α : Type} (xs : List α) (k : Nat) (h : k + 1 ≤ xs.length) : atI xs (-((k : Int) + 1)) = xs[xs.length - 1 - k]? := by
  unfold atI ixN
  rw [if_neg (by omega), if_pos (by omega)]
  show xs[(-((k : Int) + 1) + (xs.length : Int)).toNat]? = _
  congr 1
  omega
theorem atI_m1 {α : Type} (xs : List α) (d : α) (h : xs ≠ []) : atI xs (-1) = some (xs.getLastD d) := by
  have hl : 0 < xs.length := List.length_pos_iff.mpr h
  have e := atI_neg xs 0 (by omega)
  rw [show (-(((0 : Nat) : Int) + 1)) = -1 by rfl] at e
  rw [e, List.getLastD_eq_getLast?, List.getLast?_eq_getElem?]
  rw [Nat.sub_zero, List.getElem?_eq_getElem (by omega)]
  rfl
theorem sIx_some_neg (n d k : Nat) (h : k ≤ n) (hk : 0 < k) : HT.sIx n d (some (-(k : Int))) = n - k := by
  have e := HT.clip_eq (-(k : Int)) n d
  rw [if_pos (by omega)] at e
  omega
theorem cutP_neg (xs : List PyData) (k : Nat) (h : k ≤ xs.length) (hk : 0 < k) : cutP xs none (some (-(k : Int))) = xs.take (xs.length - k) := by
  unfold cutP
  rw [sIx_some_neg _ _ k h hk]
  simp [HT.sIx_none]
theorem cutP_from (xs : List PyData) (k : Nat) : cutP xs (some (k : Int)) none = xs.drop k := by
  unfold cutP
  rw [HT.sIx_none, HT.sIx_nat]
  by_cases h : k ≤ xs.length
  · rw [Nat.min_eq_left h]
    rw [List.take_of_length_le (by simp)]
  · rw [Nat.min_eq_right (by omega)]
    rw [List.drop_eq_nil_of_le (by omega : xs.length ≤ k)]
    simp
theorem cutP_to (xs : List PyData) (k : Nat) : cutP xs none (some (k : Int)) = xs.take k := by
  unfold cutP
  rw [HT.sIx_none, HT.sIx_nat]
  simp

/-! ### shaped data -/
@[simp] theorem shaped_none : SeqAt.shaped .none = true := by decide
@[simp] theorem shaped_bool (b : Bool) : SeqAt.shaped (.bool b) = true := by cases b <;> decide
@[simp] theorem shaped_int (i : Int) : SeqAt.shaped (.int i) = true := by simp [SeqAt.shaped, PyData.canLay0, PyData.depth]
theorem canLay_ints (ns : List Int) : PyData.canLayAll0 (ns.map .int) = true := by
  induction ns with
  | nil => rfl
  | cons a r ih =>
    rw [List.map_cons, PyData.canLayAll0, ih]
    rfl
theorem depth_ints (ns : List Int) : PyData.depthAll (ns.map .int) = 0 := PySem.W.depth_ints ns
theorem encI_lay (ns : List Int) : (encI ns).canLay0 = true := by
  unfold encI
  rw [PyData.canLay0]
  exact canLay_ints ns
theorem encI_depth (ns : List Int) : (encI ns).depth = 1 := by
  unfold encI
  rw [PyData.depth, depth_ints]
theorem encO_lay (o : Option Int) : (encO o).canLay0 = true := by cases o <;> rfl
theorem encO_depth (o : Option Int) : (encO o).depth = 0 := by cases o <;> simp [encO, PyData.depth]
theorem encS_lay (s : Sst) : (encS s).canLay0 = true := by
  unfold encS
  simp only [PyData.canLay0, PyData.canLayAll0, encI_lay, encO_lay, Bool.and_self]
theorem encS_depth (s : Sst) : (encS s).depth ≤ 3 := by
  unfold encS
  simp only [PyData.depth, PyData.depthAll, encI_depth, encO_depth]
  omega
@[simp] theorem shaped_encS (s : Sst) : SeqAt.shaped (encS s) = true := by
  have h := encS_depth s
  simp [SeqAt.shaped, encS_lay]
  omega
@[simp] theorem shaped_encI (s : List Int) : SeqAt.shaped (encI s) = true := by
  simp [SeqAt.shaped, encI_lay, encI_depth]
@[simp] theorem shaped_encO (s : Option Int) : SeqAt.shaped (encO s) = true := by
  simp [SeqAt.shaped, encO_lay, encO_depth]
@[simp] theorem shaped_over : SeqAt.shaped (.str sOver) = true := by decide +kernel
@[simp] theorem shaped_dry : SeqAt.shaped (.str sDry) = true := by decide +kernel
@[simp] theorem shaped_safe : SeqAt.shaped (.str sSafe) = true := by decide +kernel
@[simp] theorem shaped_encR (r : Rs) : SeqAt.shaped (encR r) = true := by cases r <;> simp [encR]

/-! ### what is good -/
structure WOk (w : Wl) : Prop where
  top : 1 ≤ w.top ∧ w.top ≤ 200
  drain : 1 ≤ w.drain ∧ w.drain ≤ 50
  on : 1 ≤ w.on ∧ w.on ≤ w.top
  off : 0 ≤ w.off ∧ w.off ≤ w.on - 1
  run : 1 ≤ w.run ∧ w.run ≤ 5
  rest : 1 ≤ w.rest ∧ w.rest ≤ 5
  starts : 1 ≤ w.starts ∧ w.starts ≤ 5
  step : 1 ≤ w.step ∧ w.step ≤ 20
  lag : 0 ≤ w.lag ∧ w.lag ≤ 3
structure Shp (w : Wl) (s : Sst) : Prop where
  past : (s.past.length : Int) = w.lag
  runs : (s.runs.length : Int) = w.run
  rests : (s.rests.length : Int) = w.rest - 1
def NumOk (n : Option Int) : Prop := ∀ k, n = some k → 0 ≤ k ∧ k ≤ 50
def numOf (s : Sst) : Option Int := s.ready.map fun r => s.runs.sum + s.rests.sum + r
/-- as is_state_of asks -/
structure SOk (w : Wl) (s : Sst) : Prop extends Shp w s where
  lv : 0 ≤ s.lv ∧ s.lv ≤ w.top
  pastv : ∀ x ∈ s.past, 0 ≤ x ∧ x ≤ w.top
  runsv : ∀ x ∈ s.runs, 0 ≤ x ∧ x ≤ 1000
  restsv : ∀ x ∈ s.rests, 0 ≤ x ∧ x ≤ 1000
  num : ∀ r, s.ready = some r → 0 ≤ r ∧ r ≤ 50 ∧ s.runs.sum + s.rests.sum + r ≤ 50
structure COk (c : Cl) : Prop where
  w : WOk c.w
  infl : 0 ≤ c.lo ∧ c.lo ≤ c.hi ∧ c.hi ≤ 300
  lvs : 0 ≤ c.frm ∧ c.frm ≤ c.to ∧ c.to ≤ c.w.top

/-! ### the beat -/
def seenS (w : Wl) (lv : Int) (past : List Int) : Int := (if 0 < w.lag then past.headD 0 else lv) - (if 0 < w.lag then past.headD 0 else lv) % w.step
def startedS (w : Wl) (s : Sst) : Int := if w.on ≤ seenS w s.lv s.past then (match s.ready with
  | none => w.starts
  | some r => if r < w.starts then r else w.starts) else 0
def stoppedS (w : Wl) (s : Sst) : Int := if w.on ≤ seenS w s.lv s.past then 0 else if seenS w s.lv s.past ≤ w.off then s.runs.getLastD 0 else 0
def agedOn (runs : List Int) (a b : Int) : List Int := (a :: runs).take (runs.length - 1) ++ [(a :: runs).getD (runs.length - 1) 0 + runs.getLastD 0 - b]
def agedOff (rests : List Int) (b : Int) : List Int := (b :: rests).take rests.length
def agedRdy (ready : Option Int) (rests : List Int) (a b : Int) : Option Int := ready.map fun r => r - a + (b :: rests).getLastD 0
def pastS (w : Wl) (s : Sst) : List Int := if 0 < w.lag then s.past.drop 1 ++ [s.lv] else []
def lvS (w : Wl) (s : Sst) (a b i : Int) : Int := s.lv + i - w.drain * (agedOn s.runs a b).sum
def ledS (w : Wl) (s : Sst) (a b i : Int) : Rs := if w.top < lvS w s a b i then .over else if lvS w s a b i < 0 then .dry else
  .st ⟨lvS w s a b i, pastS w s, agedOn s.runs a b, agedOff s.rests b, agedRdy s.ready s.rests a b⟩
def busyS (s : Sst) (a : Int) : Int := s.runs.sum + s.rests.sum + a
def beatS (w : Wl) (s : Sst) (i : Int) : Rs := ledS w s (startedS w s) (stoppedS w s) i
def busy (w : Wl) (s : Sst) : Int := busyS s (startedS w s)
def begS (w : Wl) (n : Option Int) (lv : Int) : Sst := ⟨lv, List.replicate w.lag.toNat lv, List.replicate w.run.toNat 0, List.replicate (w.rest - 1).toNat 0, n⟩
end Pm
set_option maxHeartbeats 4000000
/-! W1: wells.py, walked -/
namespace Pm
open PySem PySem.Spec PyProof.Rows L2
section
variable {P : Program} {w : World} {K : PySem.W.Frag} {mg : Str → Option Value} {base : Heap}
theorem num_le {w : Int} (h : 1 ≤ w ∧ w ≤ 50) : -18446744073709551616 < w ∧ w < 18446744073709551616 := by omega
theorem inj1 {a b : PyData} {xs ys : List PyData} (h : a :: xs = b :: ys) : a = b ∧ xs = ys := by injection h with h1 h2; exact ⟨h1, h2⟩
theorem g_is_whole_eq0 {P : Int × Int × Int → Prop} {out : Int × Int × Int → PyData} {i lo hi : Int} (h : P (i, lo, hi)) : mkF P (fun x => [PyData.int x.1, .int x.2.1, .int x.2.2]) out [.int i, .int lo, .int hi] = some (out (i, lo, hi)) :=
  mkF_eq (a := (i, lo, hi)) (fun a b h => by
    obtain ⟨a1, a2, a3⟩ := a
    obtain ⟨b1, b2, b3⟩ := b
    simp at h
    obtain ⟨h1, h2, h3⟩ := h
    subst h1 h2 h3
    rfl) h
theorem inj_W : ∀ a b : Wl, ([encW a] : List PyData) = [encW b] → a = b := fun a b h => encW_inj (inj1 h).1
theorem inj_WS : ∀ a b : Wl × Sst, ([encW a.1, encS a.2] : List PyData) = [encW b.1, encS b.2] → a = b := fun a b h => Prod.ext (encW_inj (inj1 h).1) (encS_inj (inj1 (inj1 h).2).1)
theorem sc_is_whole : FnScope ["thing", "least", "most"] ["thing", "least", "most"] (defScope (top 20)) := ⟨rfl, rfl, rfl, by decide +kernel, rfl, by decide +kernel, by decide +kernel⟩
noncomputable def g_is_whole : List PyData → Option PyData := mkF (α := Int × Int × Int) (fun _ => True) (fun x => [.int x.1, .int x.2.1, .int x.2.2]) (fun x => .bool (decide (x.2.1 ≤ x.1) && decide (x.1 ≤ x.2.2)))
theorem ok_is_whole {a : Addr} {fd : FuncData} (F : Fun K "is_whole" "is_whole" (top 20) a fd) (T : Tx mg)  : FnOk P w K mg base CX0 1 a fd ["thing", "least", "most"] (spF g_is_whole K) := by
  refine okD F sc_is_whole ?_ ?_ (fun cdv A outer s H E hr =>
    (ss_cons (s_if (PW.pt (w_or (t_not (t_val (d_isa (T := "int") (pd 0) T.b_isinstance T.b_int (hT := bt_int)))) (w_or1 (t_val (d_isa (T := "bool") (pd 0) T.b_isinstance T.b_bool (hT := bt_bool)))))) (ss_one (s_ret d_bl)) ss_nil)
    (ss_one (s_ret (d_and (d_or (d_cmp (op_isN) (ov_is) (pd 1) d_non (nomark _)) (pe_one (d_cmp (op_ge) (ov_cmpI _) (pd 0) (pd 1) (nomark _)))) (pe_one (d_or (d_cmp (op_isN) (ov_is) (pd 2) d_non (nomark _)) (pe_one (d_cmp (op_le) (ov_cmpI _) (pd 0) (pd 2) (nomark _))))))))))
  · intro ds d h
    obtain ⟨x, hP, rfl, rfl⟩ := mkF_some h
    rfl
  · intro ds d h
    obtain ⟨x, hP, rfl, rfl⟩ := mkF_some h
    left
    obtain ⟨i, lo, hi⟩ := x
    simp -implicitDefEqProofs [PyData.isInt, PyData.isBool]
    by_cases h1 : lo ≤ i <;> simp [h1]
theorem fn_is_whole {a : Addr} {fd : FuncData} (F : Fun K "is_whole" "is_whole" (top 20) a fd) (T : Tx mg) (hm : mg "is_whole" = some (.ref a))  : FnD P w K mg base 1 "is_whole" g_is_whole :=
  fnD_of F hm (fun _ _ _ _ _ _ us hl => match us, hl with | [_, _, _], _ => rfl) (ok_is_whole F T )
@[simp] theorem g_is_whole_eq (i lo hi : Int) : g_is_whole [.int i, .int lo, .int hi] = some (.bool (decide (lo ≤ i) && decide (i ≤ hi))) := g_is_whole_eq0 trivial
theorem WOk.all {w : Wl} (h : WOk w) : (1 ≤ w.top ∧ w.top ≤ 200) ∧ (1 ≤ w.drain ∧ w.drain ≤ 50) ∧ (1 ≤ w.on ∧ w.on ≤ w.top) ∧ (0 ≤ w.off ∧ w.off ≤ w.on - 1) ∧ (1 ≤ w.run ∧ w.run ≤ 5) ∧ (1 ≤ w.rest ∧ w.rest ≤ 5) ∧ (1 ≤ w.starts ∧ w.starts ≤ 5) ∧ (1 ≤ w.step ∧ w.step ≤ 20) ∧ (0 ≤ w.lag ∧ w.lag ≤ 3) := ⟨h.top, h.drain, h.on, h.off, h.run, h.rest, h.starts, h.step, h.lag⟩
theorem sc_wrong_part : FnScope ["thing", "top", "drain", "on", "off", "run", "rest", "starts", "step", "lag"] ["thing"] (defScope (top 21)) := ⟨rfl, rfl, rfl, by decide +kernel, rfl, by decide +kernel, by decide +kernel⟩
noncomputable def g_wrong_part : List PyData → Option PyData := mkF (α := Wl) (fun x => WOk x) (fun x => [encW x]) (fun _ => .none)
theorem ok_wrong_part {a : Addr} {fd : FuncData} (F : Fun K "wrong_part" "wrong_part" (top 21) a fd) (T : Tx mg) (D_is_whole : FnD P w K mg base 1 "is_whole" g_is_whole) : FnOk P w K mg base CX0 2 a fd ["thing"] (spF g_wrong_part K) := by
  refine okD F sc_wrong_part ?_ ?_ (fun cdv A outer s H E hr =>
    (ss_cons (s_asg (pd 0) (pg_tup rfl (pgs_cons (pg_name (i := 1) sc_wrong_part.nd rfl (Or.inl rfl)) (pgs_cons (pg_name (i := 2) sc_wrong_part.nd rfl (Or.inl rfl)) (pgs_cons (pg_name (i := 3) sc_wrong_part.nd rfl (Or.inl rfl)) (pgs_cons (pg_name (i := 4) sc_wrong_part.nd rfl (Or.inl rfl)) (pgs_cons (pg_name (i := 5) sc_wrong_part.nd rfl (Or.inl rfl)) (pgs_cons (pg_name (i := 6) sc_wrong_part.nd rfl (Or.inl rfl)) (pgs_cons (pg_name (i := 7) sc_wrong_part.nd rfl (Or.inl rfl)) (pgs_cons (pg_name (i := 8) sc_wrong_part.nd rfl (Or.inl rfl)) (pgs_cons (pg_name (i := 9) sc_wrong_part.nd rfl (Or.inl rfl)) pgs_nil)))))))))) (dg_tup [1, 2, 3, 4, 5, 6, 7, 8, 9] 9))
    (ss_cons (s_if (t_not (t_val (d_call D_is_whole (hr.mono (by decide)) (da_cons (pd 1) (da_cons d_int (da_cons (d_gint T.c_MOST_TOP) da_nil)))))) (ss_one (s_ret d_str)) ss_nil)
    (ss_cons (s_if (t_not (t_val (d_call D_is_whole (hr.mono (by decide)) (da_cons (pd 2) (da_cons d_int (da_cons (d_gint T.c_MOST_DRAIN) da_nil)))))) (ss_one (s_ret d_str)) ss_nil)
    (ss_cons (s_if (t_not (t_val (d_call D_is_whole (hr.mono (by decide)) (da_cons (pd 3) (da_cons d_int (da_cons (pd 1) da_nil)))))) (ss_one (s_ret d_str)) ss_nil)
    (ss_cons (s_if (t_not (t_val (d_call D_is_whole (hr.mono (by decide)) (da_cons (pd 4) (da_cons d_int (da_cons (d_bin op_sub ov_sub (pd 3) d_int) da_nil)))))) (ss_one (s_ret d_str)) ss_nil)
    (ss_cons (s_if (t_not (t_val (d_call D_is_whole (hr.mono (by decide)) (da_cons (pd 5) (da_cons d_int (da_cons (d_gint T.c_MOST_AGE) da_nil)))))) (ss_one (s_ret d_str)) ss_nil)
    (ss_cons (s_if (t_not (t_val (d_call D_is_whole (hr.mono (by decide)) (da_cons (pd 6) (da_cons d_int (da_cons (d_gint T.c_MOST_AGE) da_nil)))))) (ss_one (s_ret d_str)) ss_nil)
    (ss_cons (s_if (t_not (t_val (d_call D_is_whole (hr.mono (by decide)) (da_cons (pd 7) (da_cons d_int (da_cons (d_gint T.c_MOST_STARTS) da_nil)))))) (ss_one (s_ret d_str)) ss_nil)
    (ss_cons (s_if (t_not (t_val (d_call D_is_whole (hr.mono (by decide)) (da_cons (pd 8) (da_cons d_int (da_cons (d_gint T.c_MOST_STEP) da_nil)))))) (ss_one (s_ret d_str)) ss_nil)
    (ss_one (s_ret (d_if (t_val (d_call D_is_whole (hr.mono (by decide)) (da_cons (pd 9) (da_cons d_int (da_cons (d_gint T.c_MOST_LAG) da_nil))))) d_non d_str)))))))))))))
  · intro ds d h
    obtain ⟨x, hP, rfl, rfl⟩ := mkF_some h
    rfl
  · intro ds d h
    obtain ⟨x, hP, rfl, rfl⟩ := mkF_some h
    left
    obtain ⟨⟨t1, t2⟩, ⟨d1, d2⟩, ⟨o1, o2⟩, ⟨f1, f2⟩, ⟨r1, r2⟩, ⟨s1, s2⟩, ⟨p1, p2⟩, ⟨q1, q2⟩, ⟨l1, l2⟩⟩ := hP.all
    simp -implicitDefEqProofs [encW, t1, t2, d1, d2, o1, o2, f1, f2, r1, r2, s1, s2, p1, p2, q1, q2, l1, l2]
theorem fn_wrong_part {a : Addr} {fd : FuncData} (F : Fun K "wrong_part" "wrong_part" (top 21) a fd) (T : Tx mg) (hm : mg "wrong_part" = some (.ref a)) (D_is_whole : FnD P w K mg base 1 "is_whole" g_is_whole) : FnD P w K mg base 2 "wrong_part" g_wrong_part :=
  fnD_of F hm (fun _ _ _ _ _ _ us hl => match us, hl with | [_], _ => rfl) (ok_wrong_part F T D_is_whole)
theorem g_wrong_part_eq {w : Wl} (h : WOk w) : g_wrong_part [encW w] = some .none := mkF_eq inj_W h
theorem sc_need_well : FnScope ["thing", "part"] ["thing"] (defScope (top 22)) := ⟨rfl, rfl, rfl, by decide +kernel, rfl, by decide +kernel, by decide +kernel⟩
noncomputable def g_need_well : List PyData → Option PyData := mkF (α := Wl) (fun x => WOk x) (fun x => [encW x]) (fun x => encW x)
theorem ok_need_well {a : Addr} {fd : FuncData} (F : Fun K "need_well" "need_well" (top 22) a fd) (T : Tx mg) (D_wrong_part : FnD P w K mg base 2 "wrong_part" g_wrong_part) : FnOk P w K mg base CX0 3 a fd ["thing"] (spF g_need_well K) := by
  refine okD F sc_need_well ?_ ?_ (fun cdv A outer s H E hr =>
    (ss_cons (s_if (PW.pt (w_or (t_not (t_val (d_isa (T := "tuple") (pd 0) T.b_isinstance T.b_tuple (hT := bt_tuple)))) (w_or1 (t_cmp (op_neD hr.units) (ov_ne) (d_callB cv_len call_lenP T.b_len (da_cons (pd 0) da_nil) (hv := bt_len)) d_int (nomark _))))) (ss_one s_never) ss_nil)
    (ss_cons (s_set 1 sc_need_well.nd (d_call D_wrong_part (hr.mono (by decide)) (da_cons (pd 0) da_nil)))
    (ss_cons (s_if (t_cmp (op_notN) (ov_isnot) (pd 1) d_non (nomark _)) (ss_one s_never) ss_nil)
    (ss_one (s_ret (pd 0)))))))
  · intro ds d h
    obtain ⟨x, hP, rfl, rfl⟩ := mkF_some h
    rfl
  · intro ds d h
    obtain ⟨x, hP, rfl, rfl⟩ := mkF_some h
    left
    have e := g_wrong_part_eq hP
    have e2 : (encW x).isTuple = true := rfl
    have e3 : gLen [encW x] = some (.int 9) := rfl
    simp -implicitDefEqProofs [e, e2, e3, PyData.eqv]
theorem fn_need_well {a : Addr} {fd : FuncData} (F : Fun K "need_well" "need_well" (top 22) a fd) (T : Tx mg) (hm : mg "need_well" = some (.ref a)) (D_wrong_part : FnD P w K mg base 2 "wrong_part" g_wrong_part) : FnD P w K mg base 3 "need_well" g_need_well :=
  fnD_of F hm (fun _ _ _ _ _ _ us hl => match us, hl with | [_], _ => rfl) (ok_need_well F T D_wrong_part)
theorem g_need_well_eq {w : Wl} (h : WOk w) : g_need_well [encW w] = some (encW w) := mkF_eq inj_W h
theorem inj_O : ∀ a b : Option Int, ([encO a] : List PyData) = [encO b] → a = b := fun a b h => encO_inj (inj1 h).1
theorem inj_I (a b : Int) (h : PyData.int a = PyData.int b) : a = b := by injection h
theorem sc_is_number : FnScope ["thing"] ["thing"] (defScope (top 23)) := ⟨rfl, rfl, rfl, by decide +kernel, rfl, by decide +kernel, by decide +kernel⟩
noncomputable def g_is_number : List PyData → Option PyData := mkF (α := Option Int) (fun x => NumOk x) (fun x => [encO x]) (fun _ => .bool true)
theorem ok_is_number {a : Addr} {fd : FuncData} (F : Fun K "is_number" "is_number" (top 23) a fd) (T : Tx mg) (D_is_whole : FnD P w K mg base 1 "is_whole" g_is_whole) : FnOk P w K mg base CX0 2 a fd ["thing"] (spF g_is_number K) := by
  refine okD F sc_is_number ?_ ?_ (fun cdv A outer s H E hr =>
    (ss_one (s_ret (d_or (d_cmp (op_isN) (ov_is) (pd 0) d_non (nomark _)) (pe_one (d_call D_is_whole (hr.mono (by decide)) (da_cons (pd 0) (da_cons d_int (da_cons (d_gint T.c_MOST_NUMBER) da_nil)))))))))
  · intro ds d h
    obtain ⟨x, hP, rfl, rfl⟩ := mkF_some h
    rfl
  · intro ds d h
    obtain ⟨x, hP, rfl, rfl⟩ := mkF_some h
    left
    cases x with
    | none => simp -implicitDefEqProofs [encO]
    | some n =>
      obtain ⟨h1, h2⟩ := hP n rfl
      simp -implicitDefEqProofs [encO, h1, h2]
theorem fn_is_number {a : Addr} {fd : FuncData} (F : Fun K "is_number" "is_number" (top 23) a fd) (T : Tx mg) (hm : mg "is_number" = some (.ref a)) (D_is_whole : FnD P w K mg base 1 "is_whole" g_is_whole) : FnD P w K mg base 2 "is_number" g_is_number :=
  fnD_of F hm (fun _ _ _ _ _ _ us hl => match us, hl with | [_], _ => rfl) (ok_is_number F T D_is_whole)
theorem g_is_number_eq {n : Option Int} (h : NumOk n) : g_is_number [encO n] = some (.bool true) := mkF_eq inj_O h
theorem sc_need_number : FnScope ["number"] ["number"] (defScope (top 24)) := ⟨rfl, rfl, rfl, by decide +kernel, rfl, by decide +kernel, by decide +kernel⟩
noncomputable def g_need_number : List PyData → Option PyData := mkF (α := Option Int) (fun x => NumOk x) (fun x => [encO x]) (fun _ => .none)
theorem ok_need_number {a : Addr} {fd : FuncData} (F : Fun K "need_number" "need_number" (top 24) a fd) (T : Tx mg) (D_is_number : FnD P w K mg base 2 "is_number" g_is_number) : FnOk P w K mg base CX0 3 a fd ["number"] (spF g_need_number K) := by
  refine okD F sc_need_number ?_ ?_ (fun cdv A outer s H E hr =>
    (ss_one (s_if (t_not (t_val (d_call D_is_number (hr.mono (by decide)) (da_cons (pd 0) da_nil)))) (ss_one s_never) ss_nil)))
  · intro ds d h
    obtain ⟨x, hP, rfl, rfl⟩ := mkF_some h
    rfl
  · intro ds d h
    obtain ⟨x, hP, rfl, rfl⟩ := mkF_some h
    right
    have e := g_is_number_eq hP
    refine ⟨[some (encO x)], ?_, rfl⟩
    simp -implicitDefEqProofs [e]
theorem fn_need_number {a : Addr} {fd : FuncData} (F : Fun K "need_number" "need_number" (top 24) a fd) (T : Tx mg) (hm : mg "need_number" = some (.ref a)) (D_is_number : FnD P w K mg base 2 "is_number" g_is_number) : FnD P w K mg base 3 "need_number" g_need_number :=
  fnD_of F hm (fun _ _ _ _ _ _ us hl => match us, hl with | [_], _ => rfl) (ok_need_number F T D_is_number)
theorem g_need_number_eq {n : Option Int} (h : NumOk n) : g_need_number [encO n] = some .none := mkF_eq inj_O h
theorem lcRun_bools {set : PyData → DE → Option DE} {fe : DE → Option PyData} {ρ : DE} {p : Int → Bool} : ∀ {ns : List Int}, (∀ n ∈ ns, ∃ ρ1, set (.int n) ρ = some ρ1 ∧ fe ρ1 = some (.bool (p n))) → lcRun set fe ρ (ns.map PyData.int) = some ((ns.map p).map PyData.bool)
  | [], _ => rfl
  | n :: ns, h => by
    obtain ⟨ρ1, h1, h2⟩ := h n List.mem_cons_self
    simp only [List.map_cons, lcRun, h1, h2, Option.bind_some]
    rw [lcRun_bools fun m hm => h m (List.mem_cons_of_mem _ hm)]
    rfl
theorem noL_bools (bs : List Bool) : noLAll (bs.map PyData.bool) = true := by
  induction bs with
  | nil => rfl
  | cons a r ih => simp [noLAll, noL, ih]
theorem noL_ints (bs : List Int) : noLAll (bs.map PyData.int) = true := by
  induction bs with
  | nil => rfl
  | cons a r ih => simp [noLAll, noL, ih]
theorem all_true {ns : List Int} {p : Int → Bool} (h : ∀ n ∈ ns, p n = true) : (ns.map p).all id = true := by
  rw [List.all_eq_true]
  intro b hb
  obtain ⟨n, hn, rfl⟩ := List.mem_map.mp hb
  exact h n hn
theorem inj_LI : ∀ a b : List Int × Int, ([encI a.1, .int a.2] : List PyData) = [encI b.1, .int b.2] → a = b := fun a b h => Prod.ext (encI_inj (inj1 h).1) (inj_I _ _ (inj1 (inj1 h).2).1)
theorem inj_WLI : ∀ a b : Wl × List Int × Int, ([encW a.1, encI a.2.1, .int a.2.2] : List PyData) = [encW b.1, encI b.2.1, .int b.2.2] → a = b := fun a b h => Prod.ext (encW_inj (inj1 h).1) (Prod.ext (encI_inj (inj1 (inj1 h).2).1) (inj_I _ _ (inj1 (inj1 (inj1 h).2).2).1))
theorem sc_are_counts : FnScope ["thing", "many", "count"] ["thing", "many"] (defScope (top 25)) := ⟨rfl, rfl, rfl, by decide +kernel, rfl, by decide +kernel, by decide +kernel⟩
noncomputable def g_are_counts : List PyData → Option PyData := mkF (α := List Int × Int) (fun x => (x.1.length : Int) = x.2 ∧ x.1.length ≤ 1000 ∧ ∀ c ∈ x.1, 0 ≤ c ∧ c ≤ 1000) (fun x => [encI x.1, .int x.2]) (fun _ => .bool true)
theorem ok_are_counts {a : Addr} {fd : FuncData} (F : Fun K "are_counts" "are_counts" (top 25) a fd) (T : Tx mg) (D_is_whole : FnD P w K mg base 1 "is_whole" g_is_whole) : FnOk P w K mg base CX0 2 a fd ["thing", "many"] (spF g_are_counts K) := by
  refine okD F sc_are_counts ?_ ?_ (fun cdv A outer s H E hr =>
    (ss_cons (s_if (PW.pt (w_or (t_not (t_val (d_isa (T := "tuple") (pd 0) T.b_isinstance T.b_tuple (hT := bt_tuple)))) (w_or1 (t_cmp (op_neD hr.units) (ov_ne) (d_callB cv_len call_lenP T.b_len (da_cons (pd 0) da_nil) (hv := bt_len)) (pd 1) (nomark _))))) (ss_one (s_ret d_bl)) ss_nil)
    (ss_one (s_ret (d_callB cv_all (cr_all rfl) T.b_all (da_cons (d_lc (own := [("count", 2)]) sc_are_counts.nd (i_tup (pd 0)) (blkOk_by (N := ["thing", "many", "count"]) (sc := (defScope (top 25))) (by decide +kernel)) (dg_name 2) (by decide) (fun _ _ _ _ _ => (pg_name (i := 2) sc_are_counts.nd rfl (Or.inl rfl))) (fun _ _ _ _ _ => (d_call D_is_whole (hr.mono (by decide)) (da_cons (pd 2) (da_cons d_int (da_cons (d_gint T.c_MOST_COUNT) da_nil)))))) da_nil) (hv := bt_all))))))
  · intro ds d h
    obtain ⟨x, hP, rfl, rfl⟩ := mkF_some h
    rfl
  · intro ds d h
    obtain ⟨x, hP, rfl, rfl⟩ := mkF_some h
    left
    obtain ⟨ns, m⟩ := x
    obtain ⟨h1, h2, h3⟩ := hP
    simp only at h1 h2 h3
    have e := lcRun_bools (set := setN 2) (fe := fCall g_is_whole (fCons (fVar 2) (fCons (fC (.int 0)) (fCons (fC (.int 1000)) fNil)))) (ρ := [some (encI ns), some (.int m), none]) (p := fun c => decide (0 ≤ c) && decide (c ≤ 1000)) (ns := ns) (fun n hn => by
      refine ⟨_, rfl, ?_⟩
      simp -implicitDefEqProofs)
    have e2 : (ns.map fun c => decide (0 ≤ c) && decide (c ≤ 1000)).all id = true := all_true fun n hn => by
      obtain ⟨a1, a2⟩ := h3 n hn
      simp [a1, a2]
    have e3 : ns.length ≤ 100000 := Nat.le_trans h2 (by decide)
    have e4 := noL_bools (ns.map fun c => decide (0 ≤ c) && decide (c ≤ 1000))
    simp only [encI] at e
    simp -implicitDefEqProofs only [encI, startD, sSeq, sIf, fOrT, fNotT, fT, fIsa, f2, fVar, fC, fCall, fCons, fNil, fLc, fItemsT, sRet, sSkip, List.map_cons, List.map_nil, List.length_cons, List.length_nil, List.replicate, List.cons_append, List.nil_append, List.getElem?_cons_zero, List.getElem?_cons_succ, Option.join_some, Option.bind_some, Option.map_some, isD_tuple, isTuple_tuple, asB_bool, Bool.not_true, gLen_tup, List.length_map, h1]
    simp -implicitDefEqProofs [-List.map_map, -List.all_map, e, e2, e3, e4, PyData.eqv]
theorem fn_are_counts {a : Addr} {fd : FuncData} (F : Fun K "are_counts" "are_counts" (top 25) a fd) (T : Tx mg) (hm : mg "are_counts" = some (.ref a)) (D_is_whole : FnD P w K mg base 1 "is_whole" g_is_whole) : FnD P w K mg base 2 "are_counts" g_are_counts :=
  fnD_of F hm (fun _ _ _ _ _ _ us hl => match us, hl with | [_, _], _ => rfl) (ok_are_counts F T D_is_whole)
theorem sc_are_levels : FnScope ["well", "thing", "many", "level"] ["well", "thing", "many"] (defScope (top 26)) := ⟨rfl, rfl, rfl, by decide +kernel, rfl, by decide +kernel, by decide +kernel⟩
noncomputable def g_are_levels : List PyData → Option PyData := mkF (α := Wl × List Int × Int) (fun x => (x.2.1.length : Int) = x.2.2 ∧ x.2.1.length ≤ 1000 ∧ ∀ c ∈ x.2.1, 0 ≤ c ∧ c ≤ x.1.top) (fun x => [encW x.1, encI x.2.1, .int x.2.2]) (fun _ => .bool true)
theorem ok_are_levels {a : Addr} {fd : FuncData} (F : Fun K "are_levels" "are_levels" (top 26) a fd) (T : Tx mg) (D_is_whole : FnD P w K mg base 1 "is_whole" g_is_whole) : FnOk P w K mg base CX0 2 a fd ["well", "thing", "many"] (spF g_are_levels K) := by
  refine okD F sc_are_levels ?_ ?_ (fun cdv A outer s H E hr =>
    (ss_cons (s_if (PW.pt (w_or (t_not (t_val (d_isa (T := "tuple") (pd 1) T.b_isinstance T.b_tuple (hT := bt_tuple)))) (w_or1 (t_cmp (op_neD hr.units) (ov_ne) (d_callB cv_len call_lenP T.b_len (da_cons (pd 1) da_nil) (hv := bt_len)) (pd 2) (nomark _))))) (ss_one (s_ret d_bl)) ss_nil)
    (ss_one (s_ret (d_callB cv_all (cr_all rfl) T.b_all (da_cons (d_lc (own := [("level", 3)]) sc_are_levels.nd (i_tup (pd 1)) (blkOk_by (N := ["well", "thing", "many", "level"]) (sc := (defScope (top 26))) (by decide +kernel)) (dg_name 3) (by decide) (fun _ _ _ _ _ => (pg_name (i := 3) sc_are_levels.nd rfl (Or.inl rfl))) (fun _ _ _ _ _ => (d_call D_is_whole (hr.mono (by decide)) (da_cons (pd 3) (da_cons d_int (da_cons (d_ix (pd 0) d_int) da_nil)))))) da_nil) (hv := bt_all))))))
  · intro ds d h
    obtain ⟨x, hP, rfl, rfl⟩ := mkF_some h
    rfl
  · intro ds d h
    obtain ⟨x, hP, rfl, rfl⟩ := mkF_some h
    left
    obtain ⟨wl, ns, m⟩ := x
    obtain ⟨h1, h2, h3⟩ := hP
    simp only at h1 h2 h3
    have e := lcRun_bools (set := setN 3) (fe := fCall g_is_whole (fCons (fVar 3) (fCons (fC (.int 0)) (fCons (f2 gIx (fVar 0) (fC (.int 0))) fNil)))) (ρ := [some (encW wl), some (encI ns), some (.int m), none]) (p := fun c => decide (0 ≤ c) && decide (c ≤ wl.top)) (ns := ns) (fun n hn => by
      refine ⟨_, rfl, ?_⟩
      simp -implicitDefEqProofs [encW])
    have e2 : (ns.map fun c => decide (0 ≤ c) && decide (c ≤ wl.top)).all id = true := all_true fun n hn => by
      obtain ⟨a1, a2⟩ := h3 n hn
      simp [a1, a2]
    have e3 : ns.length ≤ 100000 := Nat.le_trans h2 (by decide)
    have e4 := noL_bools (ns.map fun c => decide (0 ≤ c) && decide (c ≤ wl.top))
    simp only [encI] at e
    simp -implicitDefEqProofs [encI, -List.map_map, -List.all_map, h1, e, e2, e3, e4, PyData.eqv]
theorem fn_are_levels {a : Addr} {fd : FuncData} (F : Fun K "are_levels" "are_levels" (top 26) a fd) (T : Tx mg) (hm : mg "are_levels" = some (.ref a)) (D_is_whole : FnD P w K mg base 1 "is_whole" g_is_whole) : FnD P w K mg base 2 "are_levels" g_are_levels :=
  fnD_of F hm (fun _ _ _ _ _ _ us hl => match us, hl with | [_, _, _], _ => rfl) (ok_are_levels F T D_is_whole)
theorem g_are_counts_eq {ns : List Int} {m : Int} (h1 : (ns.length : Int) = m) (h2 : ns.length ≤ 1000) (h3 : ∀ c ∈ ns, 0 ≤ c ∧ c ≤ 1000) : g_are_counts [encI ns, .int m] = some (.bool true) := mkF_eq (a := (ns, m)) inj_LI ⟨h1, h2, h3⟩
theorem g_are_levels_eq {wl : Wl} {ns : List Int} {m : Int} (h1 : (ns.length : Int) = m) (h2 : ns.length ≤ 1000) (h3 : ∀ c ∈ ns, 0 ≤ c ∧ c ≤ wl.top) : g_are_levels [encW wl, encI ns, .int m] = some (.bool true) := mkF_eq (a := (wl, ns, m)) inj_WLI ⟨h1, h2, h3⟩
theorem inj_S : ∀ a b : Sst, ([encS a] : List PyData) = [encS b] → a = b := fun a b h => encS_inj (inj1 h).1
theorem ixS0 (s : Sst) : gIx (encS s) (.int 0) = some (.int s.lv) := rfl
theorem ixS1 (s : Sst) : gIx (encS s) (.int 1) = some (encI s.past) := rfl
theorem ixS2 (s : Sst) : gIx (encS s) (.int 2) = some (encI s.runs) := rfl
theorem ixS3 (s : Sst) : gIx (encS s) (.int 3) = some (encI s.rests) := rfl
theorem ixS4 (s : Sst) : gIx (encS s) (.int 4) = some (encO s.ready) := rfl
theorem ixW0 (x : Wl) : gIx (encW x) (.int 0) = some (.int x.top) := rfl
theorem ixW1 (x : Wl) : gIx (encW x) (.int 1) = some (.int x.drain) := rfl
theorem ixW2 (x : Wl) : gIx (encW x) (.int 2) = some (.int x.on) := rfl
theorem ixW3 (x : Wl) : gIx (encW x) (.int 3) = some (.int x.off) := rfl
theorem ixW4 (x : Wl) : gIx (encW x) (.int 4) = some (.int x.run) := rfl
theorem ixW5 (x : Wl) : gIx (encW x) (.int 5) = some (.int x.rest) := rfl
theorem ixW6 (x : Wl) : gIx (encW x) (.int 6) = some (.int x.starts) := rfl
theorem ixW7 (x : Wl) : gIx (encW x) (.int 7) = some (.int x.step) := rfl
theorem ixW8 (x : Wl) : gIx (encW x) (.int 8) = some (.int x.lag) := rfl
theorem isTup_S (s : Sst) : (encS s).isTuple = true := rfl
theorem isTup_W (s : Wl) : (encW s).isTuple = true := rfl
theorem isTup_I (s : List Int) : (encI s).isTuple = true := rfl
theorem len_S (s : Sst) : gLen [encS s] = some (.int 5) := rfl
theorem len_W (s : Wl) : gLen [encW s] = some (.int 9) := rfl
theorem sum_I (s : List Int) : gSum [encI s] = some (.int s.sum) := by
  show (intsOf (s.map .int)).map (fun ns => PyData.int ns.sum) = _
  rw [intsOf_map]
  rfl
theorem noneO_some (n : Int) : encO (some n) = .int n := rfl
theorem noneO_none : encO none = .none := rfl
theorem sc_number_of : FnScope ["state"] ["state"] (defScope (top 28)) := ⟨rfl, rfl, rfl, by decide +kernel, rfl, by decide +kernel, by decide +kernel⟩
noncomputable def g_number_of : List PyData → Option PyData := mkF (α := Sst) (fun _ => True) (fun x => [encS x]) (fun x => encO (numOf x))
theorem ok_number_of {a : Addr} {fd : FuncData} (F : Fun K "number_of" "number_of" (top 28) a fd) (T : Tx mg)  : FnOk P w K mg base CX0 1 a fd ["state"] (spF g_number_of K) := by
  refine okD F sc_number_of ?_ ?_ (fun cdv A outer s H E hr =>
    (ss_one (s_ret (d_if (t_cmp (op_isN) (ov_is) (d_ix (pd 0) d_int) d_non (nomark _)) d_non (d_bin op_addAll ov_add (d_bin op_addAll ov_add (d_callB cv_sum (cr_sumD rfl) T.b_sum (da_cons (d_ix (pd 0) d_int) da_nil) (hv := bt_sum)) (d_callB cv_sum (cr_sumD rfl) T.b_sum (da_cons (d_ix (pd 0) d_int) da_nil) (hv := bt_sum))) (d_ix (pd 0) d_int))))))
  · intro ds d h
    obtain ⟨x, hP, rfl, rfl⟩ := mkF_some h
    rfl
  · intro ds d h
    obtain ⟨x, hP, rfl, rfl⟩ := mkF_some h
    left
    cases hr : x.ready with
    | none => simp -implicitDefEqProofs [numOf, ixS4, hr, noneO_none]
    | some r => simp -implicitDefEqProofs [numOf, ixS4, ixS2, ixS3, hr, noneO_some, sum_I]
theorem fn_number_of {a : Addr} {fd : FuncData} (F : Fun K "number_of" "number_of" (top 28) a fd) (T : Tx mg) (hm : mg "number_of" = some (.ref a))  : FnD P w K mg base 1 "number_of" g_number_of :=
  fnD_of F hm (fun _ _ _ _ _ _ us hl => match us, hl with | [_], _ => rfl) (ok_number_of F T )
theorem g_number_of_eq (s : Sst) : g_number_of [encS s] = some (encO (numOf s)) := mkF_eq inj_S trivial
theorem sc_is_state_of : FnScope ["well", "thing"] ["well", "thing"] (defScope (top 27)) := ⟨rfl, rfl, rfl, by decide +kernel, rfl, by decide +kernel, by decide +kernel⟩
noncomputable def g_is_state_of : List PyData → Option PyData := mkF (α := Wl × Sst) (fun x => WOk x.1 ∧ SOk x.1 x.2) (fun x => [encW x.1, encS x.2]) (fun _ => .bool true)
theorem ok_is_state_of {a : Addr} {fd : FuncData} (F : Fun K "is_state_of" "is_state_of" (top 27) a fd) (T : Tx mg) (D_is_whole : FnD P w K mg base 1 "is_whole" g_is_whole) (D_are_levels : FnD P w K mg base 2 "are_levels" g_are_levels) (D_are_counts : FnD P w K mg base 2 "are_counts" g_are_counts) (D_number_of : FnD P w K mg base 1 "number_of" g_number_of) : FnOk P w K mg base CX0 3 a fd ["well", "thing"] (spF g_is_state_of K) := by
  refine okD F sc_is_state_of ?_ ?_ (fun cdv A outer s H E hr =>
    (ss_cons (s_if (PW.pt (w_or (t_not (t_val (d_isa (T := "tuple") (pd 1) T.b_isinstance T.b_tuple (hT := bt_tuple)))) (w_or (t_cmp (op_neD hr.units) (ov_ne) (d_callB cv_len call_lenP T.b_len (da_cons (pd 1) da_nil) (hv := bt_len)) d_int (nomark _)) (w_or1 (t_not (t_val (d_call D_is_whole (hr.mono (by decide)) (da_cons (d_ix (pd 1) d_int) (da_cons d_int (da_cons (d_ix (pd 0) d_int) da_nil)))))))))) (ss_one (s_ret d_bl)) ss_nil)
    (ss_cons (s_if (PW.pt (w_or (t_not (t_val (d_call D_are_levels (hr.mono (by decide)) (da_cons (pd 0) (da_cons (d_ix (pd 1) d_int) (da_cons (d_ix (pd 0) d_int) da_nil)))))) (w_or1 (t_not (t_val (d_call D_are_counts (hr.mono (by decide)) (da_cons (d_ix (pd 1) d_int) (da_cons (d_ix (pd 0) d_int) da_nil)))))))) (ss_one (s_ret d_bl)) ss_nil)
    (ss_cons (s_if (t_not (t_val (d_call D_are_counts (hr.mono (by decide)) (da_cons (d_ix (pd 1) d_int) (da_cons (d_bin op_sub ov_sub (d_ix (pd 0) d_int) d_int) da_nil))))) (ss_one (s_ret d_bl)) ss_nil)
    (ss_cons (s_if (t_cmp (op_isN) (ov_is) (d_ix (pd 1) d_int) d_non (nomark _)) (ss_one (s_ret d_bl)) ss_nil)
    (ss_one (s_ret (d_and (d_call D_is_whole (hr.mono (by decide)) (da_cons (d_ix (pd 1) d_int) (da_cons d_int (da_cons (d_gint T.c_MOST_NUMBER) da_nil)))) (pe_one (d_cmp (op_le) (ov_cmpI _) (d_call D_number_of (hr.mono (by decide)) (da_cons (pd 1) da_nil)) (d_gint T.c_MOST_NUMBER) (nomark _)))))))))))
  · intro ds d h
    obtain ⟨x, hP, rfl, rfl⟩ := mkF_some h
    rfl
  · intro ds d h
    obtain ⟨x, hP, rfl, rfl⟩ := mkF_some h
    left
    obtain ⟨wl, s⟩ := x
    obtain ⟨hw, hs⟩ := hP
    simp only at hw hs
    have b1 := hw.lag
    have b2 := hw.run
    have b3 := hw.rest
    have e1 := g_are_levels_eq hs.past (by have := hs.past; omega) hs.pastv
    have e2 := g_are_counts_eq hs.runs (by have := hs.runs; omega) hs.runsv
    have e3 := g_are_counts_eq hs.rests (by have := hs.rests; omega) hs.restsv
    obtain ⟨l1, l2⟩ := hs.lv
    cases hr : s.ready with
    | none => simp -implicitDefEqProofs [isTup_S, len_S, PyData.eqv, ixS0, ixS1, ixS2, ixS3, ixS4, ixW0, ixW8, ixW4, ixW5, e1, e2, e3, l1, l2, hr, noneO_none]
    | some r =>
      obtain ⟨n1, n2, n3⟩ := hs.num r hr
      have e4 := g_number_of_eq s
      have e5 : encO (numOf s) = .int (s.runs.sum + s.rests.sum + r) := by
        unfold numOf
        rw [hr]
        rfl
      simp -implicitDefEqProofs [isTup_S, len_S, PyData.eqv, ixS0, ixS1, ixS2, ixS3, ixS4, ixW0, ixW8, ixW4, ixW5, e1, e2, e3, l1, l2, hr, noneO_some, e4, e5, n1, n2, n3]
theorem fn_is_state_of {a : Addr} {fd : FuncData} (F : Fun K "is_state_of" "is_state_of" (top 27) a fd) (T : Tx mg) (hm : mg "is_state_of" = some (.ref a)) (D_is_whole : FnD P w K mg base 1 "is_whole" g_is_whole) (D_are_levels : FnD P w K mg base 2 "are_levels" g_are_levels) (D_are_counts : FnD P w K mg base 2 "are_counts" g_are_counts) (D_number_of : FnD P w K mg base 1 "number_of" g_number_of) : FnD P w K mg base 3 "is_state_of" g_is_state_of :=
  fnD_of F hm (fun _ _ _ _ _ _ us hl => match us, hl with | [_, _], _ => rfl) (ok_is_state_of F T D_is_whole D_are_levels D_are_counts D_number_of)
theorem g_is_state_of_eq {wl : Wl} {s : Sst} (hw : WOk wl) (hs : SOk wl s) : g_is_state_of [encW wl, encS s] = some (.bool true) := mkF_eq (a := (wl, s)) inj_WS ⟨hw, hs⟩
theorem rep_map (n : Nat) (x : Int) : (List.replicate n [PyData.int x]).flatten = (List.replicate n x).map PyData.int := by
  induction n with
  | zero => rfl
  | succ n ih => rw [List.replicate_succ, List.replicate_succ, List.flatten_cons, ih]; rfl
theorem inj_WOI : ∀ a b : Wl × Option Int × Int, ([encW a.1, encO a.2.1, .int a.2.2] : List PyData) = [encW b.1, encO b.2.1, .int b.2.2] → a = b := fun a b h => Prod.ext (encW_inj (inj1 h).1) (Prod.ext (encO_inj (inj1 (inj1 h).2).1) (inj_I _ _ (inj1 (inj1 (inj1 h).2).2).1))
theorem sc_begun_with : FnScope ["well", "number", "level"] ["well", "number", "level"] (defScope (top 29)) := ⟨rfl, rfl, rfl, by decide +kernel, rfl, by decide +kernel, by decide +kernel⟩
noncomputable def g_begun_with : List PyData → Option PyData := mkF (α := Wl × Option Int × Int) (fun x => WOk x.1) (fun x => [encW x.1, encO x.2.1, .int x.2.2]) (fun x => encS (begS x.1 x.2.1 x.2.2))
theorem ok_begun_with {a : Addr} {fd : FuncData} (F : Fun K "begun_with" "begun_with" (top 29) a fd) (T : Tx mg)  : FnOk P w K mg base CX0 1 a fd ["well", "number", "level"] (spF g_begun_with K) := by
  refine okD F sc_begun_with ?_ ?_ (fun cdv A outer s H E hr =>
    (ss_one (s_ret (d_tup (da_cons (pd 2) (da_cons (d_bin op_mulT ov_mulT (d_tup (da_cons (pd 2) da_nil)) (d_ix (pd 0) d_int)) (da_cons (d_bin op_mulT ov_mulT (d_tup (da_cons d_int da_nil)) (d_ix (pd 0) d_int)) (da_cons (d_bin op_mulT ov_mulT (d_tup (da_cons d_int da_nil)) (d_bin op_sub ov_sub (d_ix (pd 0) d_int) d_int)) (da_cons (pd 1) da_nil)))))))))
  · intro ds d h
    obtain ⟨x, hP, rfl, rfl⟩ := mkF_some h
    rfl
  · intro ds d h
    obtain ⟨x, hP, rfl, rfl⟩ := mkF_some h
    left
    obtain ⟨wl, n, lv⟩ := x
    simp only at hP
    obtain ⟨b1, b2⟩ := hP.lag
    obtain ⟨b3, b4⟩ := hP.run
    obtain ⟨b5, b6⟩ := hP.rest
    have c1 : wl.lag ≤ 1000 := by omega
    have c2 : wl.run ≤ 1000 := by omega
    have c3 : wl.rest - 1 ≤ 1000 := by omega
    have c4 : 0 ≤ wl.run := by omega
    have c5 : 0 ≤ wl.rest - 1 := by omega
    simp -implicitDefEqProofs [ixW8, ixW4, ixW5, b1, c1, c2, c3, c4, c5, b3, b5, rep_map, encS, begS, encI]
theorem fn_begun_with {a : Addr} {fd : FuncData} (F : Fun K "begun_with" "begun_with" (top 29) a fd) (T : Tx mg) (hm : mg "begun_with" = some (.ref a))  : FnD P w K mg base 1 "begun_with" g_begun_with :=
  fnD_of F hm (fun _ _ _ _ _ _ us hl => match us, hl with | [_, _, _], _ => rfl) (ok_begun_with F T )
theorem g_begun_with_eq {wl : Wl} (hw : WOk wl) (n : Option Int) (lv : Int) : g_begun_with [encW wl, encO n, .int lv] = some (encS (begS wl n lv)) := mkF_eq (a := (wl, n, lv)) inj_WOI hw
theorem encW_top (wl : Wl) : encW wl = encW wl := rfl
theorem begS_ok {wl : Wl} (hw : WOk wl) {n : Option Int} (hn : NumOk n) {lv : Int} (hl : 0 ≤ lv ∧ lv ≤ wl.top) : SOk wl (begS wl n lv) := by
  have b1 := hw.lag
  have b2 := hw.run
  have b3 := hw.rest
  have z : ∀ k : Nat, (List.replicate k (0 : Int)).sum = 0 := fun k => by simp
  refine ⟨⟨?_, ?_, ?_⟩, hl, ?_, ?_, ?_, ?_⟩
  · simp [begS]; omega
  · simp [begS]; omega
  · simp [begS]; omega
  · intro x hx
    rw [show (begS wl n lv).past = List.replicate wl.lag.toNat lv from rfl] at hx
    rw [(List.mem_replicate.mp hx).2]
    exact hl
  · intro x hx
    rw [(List.mem_replicate.mp (show x ∈ List.replicate wl.run.toNat 0 from hx)).2]
    decide
  · intro x hx
    rw [(List.mem_replicate.mp (show x ∈ List.replicate (wl.rest - 1).toNat 0 from hx)).2]
    decide
  · intro r hr
    obtain ⟨h1, h2⟩ := hn r hr
    refine ⟨h1, h2, ?_⟩
    show (List.replicate wl.run.toNat (0 : Int)).sum + (List.replicate (wl.rest - 1).toNat (0 : Int)).sum + r ≤ 50
    rw [z, z]
    omega
theorem sc_begun : FnScope ["well", "number", "level"] ["well", "number", "level"] (defScope (top 30)) := ⟨rfl, rfl, rfl, by decide +kernel, rfl, by decide +kernel, by decide +kernel⟩
noncomputable def g_begun : List PyData → Option PyData := mkF (α := Wl × Option Int × Int) (fun x => WOk x.1 ∧ NumOk x.2.1 ∧ 0 ≤ x.2.2 ∧ x.2.2 ≤ x.1.top) (fun x => [encW x.1, encO x.2.1, .int x.2.2]) (fun x => encS (begS x.1 x.2.1 x.2.2))
theorem ok_begun {a : Addr} {fd : FuncData} (F : Fun K "begun" "begun" (top 30) a fd) (T : Tx mg) (D_need_well : FnD P w K mg base 3 "need_well" g_need_well) (D_need_number : FnD P w K mg base 3 "need_number" g_need_number) (D_is_whole : FnD P w K mg base 1 "is_whole" g_is_whole) (D_begun_with : FnD P w K mg base 1 "begun_with" g_begun_with) : FnOk P w K mg base CX0 4 a fd ["well", "number", "level"] (spF g_begun K) := by
  refine okD F sc_begun ?_ ?_ (fun cdv A outer s H E hr =>
    (ss_cons (s_exp (d_call D_need_well (hr.mono (by decide)) (da_cons (pd 0) da_nil)))
    (ss_cons (s_exp (d_call D_need_number (hr.mono (by decide)) (da_cons (pd 1) da_nil)))
    (ss_cons (s_if (t_not (t_val (d_call D_is_whole (hr.mono (by decide)) (da_cons (pd 2) (da_cons d_int (da_cons (d_ix (pd 0) d_int) da_nil)))))) (ss_one s_never) ss_nil)
    (ss_one (s_ret (d_call D_begun_with (hr.mono (by decide)) (da_cons (pd 0) (da_cons (pd 1) (da_cons (pd 2) da_nil))))))))))
  · intro ds d h
    obtain ⟨x, hP, rfl, rfl⟩ := mkF_some h
    rfl
  · intro ds d h
    obtain ⟨x, hP, rfl, rfl⟩ := mkF_some h
    left
    obtain ⟨wl, n, lv⟩ := x
    obtain ⟨hw, hn, h1, h2⟩ := hP
    simp only at hw hn h1 h2
    simp -implicitDefEqProofs [g_need_well_eq hw, g_need_number_eq hn, ixW0, h1, h2, g_begun_with_eq hw]
theorem fn_begun {a : Addr} {fd : FuncData} (F : Fun K "begun" "begun" (top 30) a fd) (T : Tx mg) (hm : mg "begun" = some (.ref a)) (D_need_well : FnD P w K mg base 3 "need_well" g_need_well) (D_need_number : FnD P w K mg base 3 "need_number" g_need_number) (D_is_whole : FnD P w K mg base 1 "is_whole" g_is_whole) (D_begun_with : FnD P w K mg base 1 "begun_with" g_begun_with) : FnD P w K mg base 4 "begun" g_begun :=
  fnD_of F hm (fun _ _ _ _ _ _ us hl => match us, hl with | [_, _, _], _ => rfl) (ok_begun F T D_need_well D_need_number D_is_whole D_begun_with)
theorem g_begun_eq {wl : Wl} (hw : WOk wl) {n : Option Int} (hn : NumOk n) {lv : Int} (h : 0 ≤ lv ∧ lv ≤ wl.top) : g_begun [encW wl, encO n, .int lv] = some (encS (begS wl n lv)) := mkF_eq (a := (wl, n, lv)) inj_WOI ⟨hw, hn, h.1, h.2⟩
theorem inj_WIL : ∀ a b : Wl × Int × List Int, ([encW a.1, .int a.2.1, encI a.2.2] : List PyData) = [encW b.1, .int b.2.1, encI b.2.2] → a = b := fun a b h => Prod.ext (encW_inj (inj1 h).1) (Prod.ext (inj_I _ _ (inj1 (inj1 h).2).1) (encI_inj (inj1 (inj1 (inj1 h).2).2).1))
theorem ixI0 (x : Int) (xs : List Int) : gIx (encI (x :: xs)) (.int 0) = some (.int x) := by
  show atI (PyData.int x :: xs.map .int) 0 = _
  simp
theorem sc_seen_of : FnScope ["well", "level", "past", "found"] ["well", "level", "past"] (defScope (top 31)) := ⟨rfl, rfl, rfl, by decide +kernel, rfl, by decide +kernel, by decide +kernel⟩
noncomputable def g_seen_of : List PyData → Option PyData := mkF (α := Wl × Int × List Int) (fun x => WOk x.1 ∧ (x.2.2.length : Int) = x.1.lag) (fun x => [encW x.1, .int x.2.1, encI x.2.2]) (fun x => .int (seenS x.1 x.2.1 x.2.2))
theorem ok_seen_of {a : Addr} {fd : FuncData} (F : Fun K "seen_of" "seen_of" (top 31) a fd) (T : Tx mg)  : FnOk P w K mg base CX0 1 a fd ["well", "level", "past"] (spF g_seen_of K) := by
  refine okD F sc_seen_of ?_ ?_ (fun cdv A outer s H E hr =>
    (ss_cons (s_set 3 sc_seen_of.nd (d_if (t_cmp (op_gt) (ov_cmpI _) (d_ix (pd 0) d_int) d_int (nomark _)) (d_ix (pd 2) d_int) (pd 1)))
    (ss_one (s_ret (d_bin op_sub ov_sub (pd 3) (d_bin op_mod ov_mod (d_callTy cv_int1 call_int1 T.b_int (da_cons (pd 3) da_nil) (hv := bt_int)) (d_ix (pd 0) d_int)))))))
  · intro ds d h
    obtain ⟨x, hP, rfl, rfl⟩ := mkF_some h
    rfl
  · intro ds d h
    obtain ⟨x, hP, rfl, rfl⟩ := mkF_some h
    left
    obtain ⟨wl, lv, ps⟩ := x
    obtain ⟨hw, hl⟩ := hP
    simp only at hw hl
    obtain ⟨s1, s2⟩ := hw.step
    have s3 : 0 < wl.step := by omega
    obtain ⟨l1, l2⟩ := hw.lag
    by_cases h0 : 0 < wl.lag
    · cases ps with
      | nil => simp at hl; omega
      | cons p r => simp -implicitDefEqProofs [ixW8, ixW7, h0, ixI0, s3, seenS]
    · simp -implicitDefEqProofs [ixW8, ixW7, h0, s3, seenS]
theorem fn_seen_of {a : Addr} {fd : FuncData} (F : Fun K "seen_of" "seen_of" (top 31) a fd) (T : Tx mg) (hm : mg "seen_of" = some (.ref a))  : FnD P w K mg base 1 "seen_of" g_seen_of :=
  fnD_of F hm (fun _ _ _ _ _ _ us hl => match us, hl with | [_, _, _], _ => rfl) (ok_seen_of F T )
theorem g_seen_of_eq {wl : Wl} (hw : WOk wl) {lv : Int} {ps : List Int} (h : (ps.length : Int) = wl.lag) : g_seen_of [encW wl, .int lv, encI ps] = some (.int (seenS wl lv ps)) := mkF_eq (a := (wl, lv, ps)) inj_WIL ⟨hw, h⟩
theorem getLastD_map (xs : List Int) (h : xs ≠ []) (d : PyData) : (xs.map PyData.int).getLastD d = .int (xs.getLastD 0) := by
  rw [List.getLastD_eq_getLast?, List.getLastD_eq_getLast?, List.getLast?_map, List.getLast?_eq_some_getLast h]
  rfl
theorem ixIm1 (xs : List Int) (h : xs ≠ []) : gIx (encI xs) (.int (-1)) = some (.int (xs.getLastD 0)) := by
  show atI (xs.map PyData.int) (-1) = _
  rw [atI_m1 _ .none (by simpa using h), getLastD_map xs h]
theorem WOk.runs_ne {wl : Wl} (hw : WOk wl) {s : Sst} (hs : Shp wl s) : s.runs ≠ [] := fun e => by
  have h1 := hs.runs
  have h2 := hw.run
  rw [e] at h1
  simp at h1
  omega
theorem sc_moves_of : FnScope ["well", "state", "seen"] ["well", "state"] (defScope (top 32)) := ⟨rfl, rfl, rfl, by decide +kernel, rfl, by decide +kernel, by decide +kernel⟩
noncomputable def g_moves_of : List PyData → Option PyData := mkF (α := Wl × Sst) (fun x => WOk x.1 ∧ Shp x.1 x.2) (fun x => [encW x.1, encS x.2]) (fun x => .tuple [.int (startedS x.1 x.2), .int (stoppedS x.1 x.2)])
theorem ok_moves_of {a : Addr} {fd : FuncData} (F : Fun K "moves_of" "moves_of" (top 32) a fd) (T : Tx mg) (D_seen_of : FnD P w K mg base 1 "seen_of" g_seen_of) : FnOk P w K mg base CX0 2 a fd ["well", "state"] (spF g_moves_of K) := by
  refine okD F sc_moves_of ?_ ?_ (fun cdv A outer s H E hr =>
    (ss_cons (s_set 2 sc_moves_of.nd (d_call D_seen_of (hr.mono (by decide)) (da_cons (pd 0) (da_cons (d_ix (pd 1) d_int) (da_cons (d_ix (pd 1) d_int) da_nil)))))
    (ss_cons (s_if (t_cmp (op_ge) (ov_cmpI _) (pd 2) (d_ix (pd 0) d_int) (nomark _)) (ss_one (s_ret (d_tup (da_cons (d_if (t_cmp (op_isN) (ov_is) (d_ix (pd 1) d_int) d_non (nomark _)) (d_ix (pd 0) d_int) (d_callB cv_2I (call_min2 rfl) T.b_min (da_cons (d_ix (pd 0) d_int) (da_cons (d_ix (pd 1) d_int) da_nil)) (hv := bt_min))) (da_cons d_int da_nil))))) ss_nil)
    (ss_one (s_ret (d_tup (da_cons d_int (da_cons (d_if (t_cmp (op_le) (ov_cmpI _) (pd 2) (d_ix (pd 0) d_int) (nomark _)) (d_ix (d_ix (pd 1) d_int) (d_neg)) d_int) da_nil))))))))
  · intro ds d h
    obtain ⟨x, hP, rfl, rfl⟩ := mkF_some h
    rfl
  · intro ds d h
    obtain ⟨x, hP, rfl, rfl⟩ := mkF_some h
    left
    obtain ⟨wl, s⟩ := x
    obtain ⟨hw, hs⟩ := hP
    simp only at hw hs
    have e := g_seen_of_eq hw (lv := s.lv) hs.past
    have e2 := ixIm1 s.runs (hw.runs_ne hs)
    by_cases h1 : wl.on ≤ seenS wl s.lv s.past
    · cases hr : s.ready with
      | none => simp -implicitDefEqProofs [ixS0, ixS1, ixS4, e, ixW2, ixW6, h1, hr, noneO_none, startedS, stoppedS]
      | some r => simp -implicitDefEqProofs [ixS0, ixS1, ixS4, e, ixW2, ixW6, h1, hr, noneO_some, startedS, stoppedS]
    · by_cases h2 : seenS wl s.lv s.past ≤ wl.off
      · simp -implicitDefEqProofs [ixS0, ixS1, ixS2, ixS4, e, e2, ixW2, ixW3, ixW6, h1, h2, startedS, stoppedS]
      · simp -implicitDefEqProofs [ixS0, ixS1, ixS2, ixS4, e, e2, ixW2, ixW3, ixW6, h1, h2, startedS, stoppedS]
theorem fn_moves_of {a : Addr} {fd : FuncData} (F : Fun K "moves_of" "moves_of" (top 32) a fd) (T : Tx mg) (hm : mg "moves_of" = some (.ref a)) (D_seen_of : FnD P w K mg base 1 "seen_of" g_seen_of) : FnD P w K mg base 2 "moves_of" g_moves_of :=
  fnD_of F hm (fun _ _ _ _ _ _ us hl => match us, hl with | [_, _], _ => rfl) (ok_moves_of F T D_seen_of)
theorem g_moves_of_eq {wl : Wl} (hw : WOk wl) {s : Sst} (hs : Shp wl s) : g_moves_of [encW wl, encS s] = some (.tuple [.int (startedS wl s), .int (stoppedS wl s)]) := mkF_eq (a := (wl, s)) inj_WS ⟨hw, hs⟩
end
end Pm
set_option maxHeartbeats 4000000
/-! W2: wells.py (beats) and the plain defs of safety.py, walked -/
namespace Pm
open PySem PySem.Spec PyProof.Rows L2
section
variable {P : Program} {w : World} {K : PySem.W.Frag} {mg : Str → Option Value} {base : Heap}
abbrev Ag := List Int × List Int × Option Int × Int × Int
theorem inj_Ag : ∀ a b : Wl × Ag, ([encW a.1, encI a.2.1, encI a.2.2.1, encO a.2.2.2.1, .int a.2.2.2.2.1, .int a.2.2.2.2.2] : List PyData) = [encW b.1, encI b.2.1, encI b.2.2.1, encO b.2.2.2.1, .int b.2.2.2.2.1, .int b.2.2.2.2.2] → a = b := fun a b h => by
  obtain ⟨h1, h⟩ := inj1 h
  obtain ⟨h2, h⟩ := inj1 h
  obtain ⟨h3, h⟩ := inj1 h
  obtain ⟨h4, h⟩ := inj1 h
  obtain ⟨h5, h⟩ := inj1 h
  obtain ⟨h6, h⟩ := inj1 h
  exact Prod.ext (encW_inj h1) (Prod.ext (encI_inj h2) (Prod.ext (encI_inj h3) (Prod.ext (encO_inj h4) (Prod.ext (inj_I _ _ h5) (inj_I _ _ h6)))))
theorem on_m2 (a : Int) (xs : List Int) (h : xs ≠ []) : gIx (.tuple (.int a :: xs.map .int)) (.int (-2)) = some (.int ((a :: xs).getD (xs.length - 1) 0)) := by
  show atI ((a :: xs).map PyData.int) (-2) = _
  have hl : 0 < xs.length := List.length_pos_iff.mpr h
  have e := atI_neg ((a :: xs).map PyData.int) 1 (by simp; omega)
  rw [show (-(((1 : Nat) : Int) + 1)) = -2 by rfl] at e
  rw [e, List.getElem?_map, List.length_map, List.length_cons, List.getD_eq_getElem?_getD, show xs.length + 1 - 1 - 1 = xs.length - 1 by omega]
  rw [List.getElem?_eq_getElem (by simp; omega)]
  rfl
theorem on_m1 (a : Int) (xs : List Int) (h : xs ≠ []) : gIx (.tuple (.int a :: xs.map .int)) (.int (-1)) = some (.int (xs.getLastD 0)) := by
  have e := ixIm1 (a :: xs) (by simp)
  rw [show encI (a :: xs) = .tuple (.int a :: xs.map .int) from rfl] at e
  rw [e]
  cases xs with
  | nil => exact absurd rfl h
  | cons b r => rfl
theorem on_cut (a : Int) (xs : List Int) (h : xs ≠ []) : gSl (.tuple (.int a :: xs.map .int)) none (some (-2)) = some (encI ((a :: xs).take (xs.length - 1))) := by
  have hl : 0 < xs.length := List.length_pos_iff.mpr h
  show some (PyData.tuple (cutP ((a :: xs).map PyData.int) none (some (-((2 : Nat) : Int))))) = _
  rw [cutP_neg _ 2 (by simp; omega) (by decide), List.length_map, List.length_cons, show xs.length + 1 - 2 = xs.length - 1 by omega]
  unfold encI
  rw [List.map_take]
theorem off_cut (a : Int) (xs : List Int) : gSl (.tuple (.int a :: xs.map .int)) none (some (-1)) = some (encI ((a :: xs).take xs.length)) := by
  show some (PyData.tuple (cutP ((a :: xs).map PyData.int) none (some (-((1 : Nat) : Int))))) = _
  rw [cutP_neg _ 1 (by simp) (by decide), List.length_map, List.length_cons, Nat.add_sub_cancel]
  unfold encI
  rw [List.map_take]
theorem off_m1 (a : Int) (xs : List Int) : gIx (.tuple (.int a :: xs.map .int)) (.int (-1)) = some (.int ((a :: xs).getLastD 0)) := by
  have e := ixIm1 (a :: xs) (by simp)
  exact e
theorem add_II (xs ys : List Int) (h : xs.length + ys.length ≤ 100000) : gAdd (encI xs) (encI ys) = some (encI (xs ++ ys)) := by
  unfold encI
  rw [gAdd_tup, List.length_map, List.length_map, if_pos (show xs.length + ys.length ≤ zBig from h), List.map_append]
theorem one_I (a : Int) : PyData.tuple [.int a] = encI [a] := rfl
theorem cons_I (a : Int) (xs : List Int) : PyData.tuple (.int a :: xs.map .int) = encI (a :: xs) := rfl
theorem isNone_O (o : Option Int) : isNoneD (encO o) = o.isNone := by cases o <;> rfl
theorem on_m2' (a : Int) (xs : List Int) (h : xs ≠ []) : gIx (encI (a :: xs)) (.int (-2)) = some (.int ((a :: xs).getD (xs.length - 1) 0)) := on_m2 a xs h
theorem on_m1' (a : Int) (xs : List Int) (h : xs ≠ []) : gIx (encI (a :: xs)) (.int (-1)) = some (.int (xs.getLastD 0)) := on_m1 a xs h
theorem on_cut' (a : Int) (xs : List Int) (h : xs ≠ []) : gSl (encI (a :: xs)) none (some (-2)) = some (encI ((a :: xs).take (xs.length - 1))) := on_cut a xs h
theorem off_cut' (a : Int) (xs : List Int) : gSl (encI (a :: xs)) none (some (-1)) = some (encI ((a :: xs).take xs.length)) := off_cut a xs
theorem off_m1' (a : Int) (xs : List Int) : gIx (encI (a :: xs)) (.int (-1)) = some (.int ((a :: xs).getLastD 0)) := off_m1 a xs
theorem sc_aged : FnScope ["well", "running", "resting", "ready", "started", "stopped", "on", "off"] ["well", "running", "resting", "ready", "started", "stopped"] (defScope (top 33)) := ⟨rfl, rfl, rfl, by decide +kernel, rfl, by decide +kernel, by decide +kernel⟩
noncomputable def g_aged : List PyData → Option PyData := mkF (α := Wl × Ag) (fun x => x.2.1 ≠ [] ∧ x.2.1.length ≤ 1000 ∧ x.2.2.1.length ≤ 1000) (fun x => [encW x.1, encI x.2.1, encI x.2.2.1, encO x.2.2.2.1, .int x.2.2.2.2.1, .int x.2.2.2.2.2]) (fun x => .tuple [encI (agedOn x.2.1 x.2.2.2.2.1 x.2.2.2.2.2), encI (agedOff x.2.2.1 x.2.2.2.2.2), encO (agedRdy x.2.2.2.1 x.2.2.1 x.2.2.2.2.1 x.2.2.2.2.2)])
theorem ok_aged {a : Addr} {fd : FuncData} (F : Fun K "aged" "aged" (top 33) a fd) (T : Tx mg)  : FnOk P w K mg base CX0 1 a fd ["well", "running", "resting", "ready", "started", "stopped"] (spF g_aged K) := by
  refine okD F sc_aged ?_ ?_ (fun cdv A outer s H E hr =>
    (ss_cons (s_set 6 sc_aged.nd (d_bin op_addAll ov_add (d_tup (da_cons (pd 4) da_nil)) (pd 1)))
    (ss_cons (s_set 6 sc_aged.nd (d_bin op_addAll ov_add (d_slice (pd 6) do_none (do_some (d_neg))) (d_tup (da_cons (d_bin op_sub ov_sub (d_bin op_addAll ov_add (d_ix (pd 6) (d_neg)) (d_ix (pd 6) (d_neg))) (pd 5)) da_nil))))
    (ss_cons (s_set 7 sc_aged.nd (d_bin op_addAll ov_add (d_tup (da_cons (pd 5) da_nil)) (pd 2)))
    (ss_one (s_ret (d_tup (da_cons (pd 6) (da_cons (d_slice (pd 7) do_none (do_some (d_neg))) (da_cons (d_if (t_cmp (op_isN) (ov_is) (pd 3) d_non (nomark _)) d_non (d_bin op_addAll ov_add (d_bin op_sub ov_sub (pd 3) (pd 4)) (d_ix (pd 7) (d_neg)))) da_nil))))))))))
  · intro ds d h
    obtain ⟨x, hP, rfl, rfl⟩ := mkF_some h
    rfl
  · intro ds d h
    obtain ⟨x, hP, rfl, rfl⟩ := mkF_some h
    left
    obtain ⟨wl, rs, ts, rdy, a, b⟩ := x
    obtain ⟨h1, h2, h3⟩ := hP
    simp only at h1 h2 h3
    have l1 : ([a] : List Int).length + rs.length ≤ 100000 := by simp; omega
    have l2 : ([b] : List Int).length + ts.length ≤ 100000 := by simp; omega
    have l3 : ((a :: rs).take (rs.length - 1)).length + [(a :: rs).getD (rs.length - 1) 0 + rs.getLastD 0 - b].length ≤ 100000 := by simp; omega
    cases rdy with
    | none => simp -implicitDefEqProofs only [startD, sSeq, sSet, sRet, fTup, f2, fSl, fPart, fNoPart, fVar, fC, fCons, fNil, fIf, fT, List.map_cons, List.map_nil, List.length_cons, List.length_nil, List.replicate, List.cons_append, List.nil_append, List.getElem?_cons_zero, List.getElem?_cons_succ, List.set_cons_zero, List.set_cons_succ, Option.join_some, Option.bind_some, Option.map_some, thenR_nx, thenR_rt, asI_int, asB_bool, one_I, add_II _ _ l1, add_II _ _ l2, add_II _ _ l3, on_m2' a rs h1, on_m1' a rs h1, on_cut' a rs h1, off_cut', off_m1', gAdd_int, gSub_int, gIs_none, isNone_O, zBig, Nat.reduceAdd, Nat.reduceLeDiff, Nat.reduceSub, if_true, noneO_none, isNoneD_none, ite_true]; rfl
    | some r => simp -implicitDefEqProofs only [startD, sSeq, sSet, sRet, fTup, f2, fSl, fPart, fNoPart, fVar, fC, fCons, fNil, fIf, fT, List.map_cons, List.map_nil, List.length_cons, List.length_nil, List.replicate, List.cons_append, List.nil_append, List.getElem?_cons_zero, List.getElem?_cons_succ, List.set_cons_zero, List.set_cons_succ, Option.join_some, Option.bind_some, Option.map_some, thenR_nx, thenR_rt, asI_int, asB_bool, one_I, add_II _ _ l1, add_II _ _ l2, add_II _ _ l3, on_m2' a rs h1, on_m1' a rs h1, on_cut' a rs h1, off_cut', off_m1', gAdd_int, gSub_int, gIs_none, isNone_O, zBig, Nat.reduceAdd, Nat.reduceLeDiff, Nat.reduceSub, if_false, noneO_some, isNoneD_int, Bool.false_eq_true, ite_true]; rfl
theorem fn_aged {a : Addr} {fd : FuncData} (F : Fun K "aged" "aged" (top 33) a fd) (T : Tx mg) (hm : mg "aged" = some (.ref a))  : FnD P w K mg base 1 "aged" g_aged :=
  fnD_of F hm (fun _ _ _ _ _ _ us hl => match us, hl with | [_, _, _, _, _, _], _ => rfl) (ok_aged F T )
theorem g_aged_eq (wl : Wl) {rs ts : List Int} (rdy : Option Int) (a b : Int) (h1 : rs ≠ []) (h2 : rs.length ≤ 1000) (h3 : ts.length ≤ 1000) : g_aged [encW wl, encI rs, encI ts, encO rdy, .int a, .int b] = some (.tuple [encI (agedOn rs a b), encI (agedOff ts b), encO (agedRdy rdy ts a b)]) := mkF_eq (a := (wl, rs, ts, rdy, a, b)) inj_Ag ⟨h1, h2, h3⟩
abbrev Le := Wl × Sst × Int × Int × Int
theorem inj_Le : ∀ a b : Le, ([encW a.1, encS a.2.1, .int a.2.2.1, .int a.2.2.2.1, .int a.2.2.2.2] : List PyData) = [encW b.1, encS b.2.1, .int b.2.2.1, .int b.2.2.2.1, .int b.2.2.2.2] → a = b := fun a b h => by
  obtain ⟨h1, h⟩ := inj1 h
  obtain ⟨h2, h⟩ := inj1 h
  obtain ⟨h3, h⟩ := inj1 h
  obtain ⟨h4, h⟩ := inj1 h
  obtain ⟨h5, h⟩ := inj1 h
  exact Prod.ext (encW_inj h1) (Prod.ext (encS_inj h2) (Prod.ext (inj_I _ _ h3) (Prod.ext (inj_I _ _ h4) (inj_I _ _ h5))))
theorem past_cut (xs : List Int) : gSl (encI xs) (some 1) none = some (encI (xs.drop 1)) := by
  show some (PyData.tuple (cutP (xs.map PyData.int) (some ((1 : Nat) : Int)) none)) = _
  rw [cutP_from]
  unfold encI
  rw [List.map_drop]
theorem nil_I : PyData.tuple [] = encI [] := rfl
theorem mk_S (lv : Int) (a b c : List Int) (r : Option Int) : PyData.tuple [.int lv, encI a, encI b, encI c, encO r] = encS ⟨lv, a, b, c, r⟩ := rfl
theorem setT3 (a b c : PyData) (ρ : DE) (i j k : Nat) : setT [i, j, k] (.tuple [a, b, c]) ρ = some (((ρ.set i (some a)).set j (some b)).set k (some c)) := rfl
theorem setT2 (a b : PyData) (ρ : DE) (i j : Nat) : setT [i, j] (.tuple [a, b]) ρ = some ((ρ.set i (some a)).set j (some b)) := rfl
theorem str_over : PyData.str "over" = encR .over := rfl
theorem str_dry : PyData.str "dry" = encR .dry := rfl
theorem sc_led_to : FnScope ["well", "state", "started", "stopped", "inflow", "past", "on", "off", "ready", "level", "busy"] ["well", "state", "started", "stopped", "inflow"] (defScope (top 34)) := ⟨rfl, rfl, rfl, by decide +kernel, rfl, by decide +kernel, by decide +kernel⟩
noncomputable def g_led_to : List PyData → Option PyData := mkF (α := Le) (fun x => WOk x.1 ∧ Shp x.1 x.2.1) (fun x => [encW x.1, encS x.2.1, .int x.2.2.1, .int x.2.2.2.1, .int x.2.2.2.2]) (fun x => .tuple [encR (ledS x.1 x.2.1 x.2.2.1 x.2.2.2.1 x.2.2.2.2), .int (busyS x.2.1 x.2.2.1)])
theorem ok_led_to {a : Addr} {fd : FuncData} (F : Fun K "led_to" "led_to" (top 34) a fd) (T : Tx mg) (D_aged : FnD P w K mg base 1 "aged" g_aged) : FnOk P w K mg base CX0 2 a fd ["well", "state", "started", "stopped", "inflow"] (spF g_led_to K) := by
  refine okD F sc_led_to ?_ ?_ (fun cdv A outer s H E hr =>
    (ss_cons (s_asg (d_call D_aged (hr.mono (by decide)) (da_cons (pd 0) (da_cons (d_ix (pd 1) d_int) (da_cons (d_ix (pd 1) d_int) (da_cons (d_ix (pd 1) d_int) (da_cons (pd 2) (da_cons (pd 3) da_nil))))))) (pg_tup rfl (pgs_cons (pg_name (i := 6) sc_led_to.nd rfl (Or.inl rfl)) (pgs_cons (pg_name (i := 7) sc_led_to.nd rfl (Or.inl rfl)) (pgs_cons (pg_name (i := 8) sc_led_to.nd rfl (Or.inl rfl)) pgs_nil)))) (dg_tup [6, 7, 8] 3))
    (ss_cons (s_par (i := 9) (j := 10) sc_led_to.nd (d_bin op_sub ov_sub (d_bin op_addAll ov_add (d_ix (pd 1) d_int) (pd 4)) (d_bin op_mul ov_mul (d_ix (pd 0) d_int) (d_callB cv_sum (cr_sumD rfl) T.b_sum (da_cons (pd 6) da_nil) (hv := bt_sum)))) (d_bin op_addAll ov_add (d_bin op_addAll ov_add (d_callB cv_sum (cr_sumD rfl) T.b_sum (da_cons (d_ix (pd 1) d_int) da_nil) (hv := bt_sum)) (d_callB cv_sum (cr_sumD rfl) T.b_sum (da_cons (d_ix (pd 1) d_int) da_nil) (hv := bt_sum))) (pd 2)) (by rfl) (by rfl) (by decide))
    (ss_cons (s_if (t_cmp (op_gt) (ov_cmpI _) (pd 9) (d_ix (pd 0) d_int) (nomark _)) (ss_one (s_ret (d_tup (da_cons (d_gstr T.c_OVER) (da_cons (pd 10) da_nil))))) ss_nil)
    (ss_cons (s_if (t_cmp (op_lt) (ov_cmpI _) (pd 9) d_int (nomark _)) (ss_one (s_ret (d_tup (da_cons (d_gstr T.c_DRY) (da_cons (pd 10) da_nil))))) ss_nil)
    (ss_cons (s_set 5 sc_led_to.nd (d_if (t_cmp (op_gt) (ov_cmpI _) (d_ix (pd 0) d_int) d_int (nomark _)) (d_bin op_addAll ov_add (d_slice (d_ix (pd 1) d_int) (do_some d_int) do_none) (d_tup (da_cons (d_ix (pd 1) d_int) da_nil))) (d_tup da_nil)))
    (ss_one (s_ret (d_tup (da_cons (d_tup (da_cons (pd 9) (da_cons (pd 5) (da_cons (pd 6) (da_cons (pd 7) (da_cons (pd 8) da_nil)))))) (da_cons (pd 10) da_nil)))))))))))
  · intro ds d h
    obtain ⟨x, hP, rfl, rfl⟩ := mkF_some h
    rfl
  · intro ds d h
    obtain ⟨x, hP, rfl, rfl⟩ := mkF_some h
    left
    obtain ⟨wl, s, a, b, i⟩ := x
    obtain ⟨hw, hs⟩ := hP
    simp only at hw hs
    have z1 := hw.lag
    have z2 := hw.run
    have z3 := hw.rest
    have z4 := hs.past
    have z5 := hs.runs
    have z6 := hs.rests
    have e := g_aged_eq wl (rs := s.runs) (ts := s.rests) s.ready a b (hw.runs_ne hs) (by omega) (by omega)
    have l1 : (s.past.drop 1).length + [s.lv].length ≤ 100000 := by simp; omega
    have d1 : -(2 ^ 64) < wl.drain ∧ wl.drain < 2 ^ 64 := by have := hw.drain; omega
    have ep : (if 0 < wl.lag then encI (s.past.drop 1 ++ [s.lv]) else encI []) = encI (pastS wl s) := by
      unfold pastS
      split <;> rfl
    have elv : s.lv + i - wl.drain * (agedOn s.runs a b).sum = lvS wl s a b i := rfl
    by_cases h1 : wl.top < lvS wl s a b i
    · have er : ledS wl s a b i = .over := by unfold ledS; rw [if_pos h1]
      simp -implicitDefEqProofs only [startD, sSeq, sSet, sRet, sIf, sSkip, sAsgG, sPar, fTup, f2, fSl, fPart, fNoPart, fVar, fC, fCons, fNil, fIf, fT, fCall, List.map_cons, List.map_nil, List.length_cons, List.length_nil, List.replicate, List.cons_append, List.nil_append, List.getElem?_cons_zero, List.getElem?_cons_succ, List.set_cons_zero, List.set_cons_succ, Option.join_some, Option.join_none, Option.bind_some, Option.map_some, thenR_nx, thenR_rt, asI_int, asB_bool, gAdd_int, gSub_int, gMul_int, gCmpI_int, zBig, Nat.reduceAdd, Nat.reduceLeDiff, Nat.reduceSub, ite_true, ite_false, Bool.false_eq_true, decide_true, decide_false, gIs_none, decide_eq_true_eq, ixS0, ixS1, ixS2, ixS3, ixS4, ixW0, ixW1, ixW8, e, setT3, sum_I, d1, and_self, elv, h1, er, str_over]; rfl
    · by_cases h2 : lvS wl s a b i < 0
      · have er : ledS wl s a b i = .dry := by unfold ledS; rw [if_neg h1, if_pos h2]
        simp -implicitDefEqProofs only [startD, sSeq, sSet, sRet, sIf, sSkip, sAsgG, sPar, fTup, f2, fSl, fPart, fNoPart, fVar, fC, fCons, fNil, fIf, fT, fCall, List.map_cons, List.map_nil, List.length_cons, List.length_nil, List.replicate, List.cons_append, List.nil_append, List.getElem?_cons_zero, List.getElem?_cons_succ, List.set_cons_zero, List.set_cons_succ, Option.join_some, Option.join_none, Option.bind_some, Option.map_some, thenR_nx, thenR_rt, asI_int, asB_bool, gAdd_int, gSub_int, gMul_int, gCmpI_int, zBig, Nat.reduceAdd, Nat.reduceLeDiff, Nat.reduceSub, ite_true, ite_false, Bool.false_eq_true, decide_true, decide_false, gIs_none, decide_eq_true_eq, ixS0, ixS1, ixS2, ixS3, ixS4, ixW0, ixW1, ixW8, e, setT3, sum_I, d1, and_self, elv, h1, h2, er, str_dry]; rfl
      · have er : ledS wl s a b i = .st ⟨lvS wl s a b i, pastS wl s, agedOn s.runs a b, agedOff s.rests b, agedRdy s.ready s.rests a b⟩ := by unfold ledS; rw [if_neg h1, if_neg h2]
        by_cases h3 : 0 < wl.lag
        · have ep' : pastS wl s = s.past.drop 1 ++ [s.lv] := by unfold pastS; rw [if_pos h3]
          simp -implicitDefEqProofs only [startD, sSeq, sSet, sRet, sIf, sSkip, sAsgG, sPar, fTup, f2, fSl, fPart, fNoPart, fVar, fC, fCons, fNil, fIf, fT, fCall, List.map_cons, List.map_nil, List.length_cons, List.length_nil, List.replicate, List.cons_append, List.nil_append, List.getElem?_cons_zero, List.getElem?_cons_succ, List.set_cons_zero, List.set_cons_succ, Option.join_some, Option.join_none, Option.bind_some, Option.map_some, thenR_nx, thenR_rt, asI_int, asB_bool, gAdd_int, gSub_int, gMul_int, gCmpI_int, zBig, Nat.reduceAdd, Nat.reduceLeDiff, Nat.reduceSub, ite_true, ite_false, Bool.false_eq_true, decide_true, decide_false, gIs_none, decide_eq_true_eq, ixS0, ixS1, ixS2, ixS3, ixS4, ixW0, ixW1, ixW8, e, setT3, sum_I, d1, and_self, elv, h1, h2, h3, er, past_cut, one_I, add_II _ _ l1, ep', mk_S]; rfl
        · have ep' : pastS wl s = [] := by unfold pastS; rw [if_neg h3]
          simp -implicitDefEqProofs only [startD, sSeq, sSet, sRet, sIf, sSkip, sAsgG, sPar, fTup, f2, fSl, fPart, fNoPart, fVar, fC, fCons, fNil, fIf, fT, fCall, List.map_cons, List.map_nil, List.length_cons, List.length_nil, List.replicate, List.cons_append, List.nil_append, List.getElem?_cons_zero, List.getElem?_cons_succ, List.set_cons_zero, List.set_cons_succ, Option.join_some, Option.join_none, Option.bind_some, Option.map_some, thenR_nx, thenR_rt, asI_int, asB_bool, gAdd_int, gSub_int, gMul_int, gCmpI_int, zBig, Nat.reduceAdd, Nat.reduceLeDiff, Nat.reduceSub, ite_true, ite_false, Bool.false_eq_true, decide_true, decide_false, gIs_none, decide_eq_true_eq, ixS0, ixS1, ixS2, ixS3, ixS4, ixW0, ixW1, ixW8, e, setT3, sum_I, d1, and_self, elv, h1, h2, h3, er, past_cut, one_I, nil_I, ep', mk_S]; rfl
theorem fn_led_to {a : Addr} {fd : FuncData} (F : Fun K "led_to" "led_to" (top 34) a fd) (T : Tx mg) (hm : mg "led_to" = some (.ref a)) (D_aged : FnD P w K mg base 1 "aged" g_aged) : FnD P w K mg base 2 "led_to" g_led_to :=
  fnD_of F hm (fun _ _ _ _ _ _ us hl => match us, hl with | [_, _, _, _, _], _ => rfl) (ok_led_to F T D_aged)
theorem g_led_to_eq {wl : Wl} (hw : WOk wl) {s : Sst} (hs : Shp wl s) (a b i : Int) : g_led_to [encW wl, encS s, .int a, .int b, .int i] = some (.tuple [encR (ledS wl s a b i), .int (busyS s a)]) := mkF_eq (a := (wl, s, a, b, i)) inj_Le ⟨hw, hs⟩
theorem inj_WSI : ∀ a b : Wl × Sst × Int, ([encW a.1, encS a.2.1, .int a.2.2] : List PyData) = [encW b.1, encS b.2.1, .int b.2.2] → a = b := fun a b h => Prod.ext (encW_inj (inj1 h).1) (Prod.ext (encS_inj (inj1 (inj1 h).2).1) (inj_I _ _ (inj1 (inj1 (inj1 h).2).2).1))
theorem sc_after_in : FnScope ["well", "state", "inflow", "started", "stopped"] ["well", "state", "inflow"] (defScope (top 35)) := ⟨rfl, rfl, rfl, by decide +kernel, rfl, by decide +kernel, by decide +kernel⟩
noncomputable def g_after_in : List PyData → Option PyData := mkF (α := Wl × Sst × Int) (fun x => WOk x.1 ∧ Shp x.1 x.2.1) (fun x => [encW x.1, encS x.2.1, .int x.2.2]) (fun x => encR (beatS x.1 x.2.1 x.2.2))
theorem ok_after_in {a : Addr} {fd : FuncData} (F : Fun K "after_in" "after_in" (top 35) a fd) (T : Tx mg) (D_moves_of : FnD P w K mg base 2 "moves_of" g_moves_of) (D_led_to : FnD P w K mg base 2 "led_to" g_led_to) : FnOk P w K mg base CX0 3 a fd ["well", "state", "inflow"] (spF g_after_in K) := by
  refine okD F sc_after_in ?_ ?_ (fun cdv A outer s H E hr =>
    (ss_cons (s_asg (d_call D_moves_of (hr.mono (by decide)) (da_cons (pd 0) (da_cons (pd 1) da_nil))) (pg_tup rfl (pgs_cons (pg_name (i := 3) sc_after_in.nd rfl (Or.inl rfl)) (pgs_cons (pg_name (i := 4) sc_after_in.nd rfl (Or.inl rfl)) pgs_nil))) (dg_tup [3, 4] 2))
    (ss_one (s_ret (d_ix (d_call D_led_to (hr.mono (by decide)) (da_cons (pd 0) (da_cons (pd 1) (da_cons (pd 3) (da_cons (pd 4) (da_cons (pd 2) da_nil)))))) d_int)))))
  · intro ds d h
    obtain ⟨x, hP, rfl, rfl⟩ := mkF_some h
    rfl
  · intro ds d h
    obtain ⟨x, hP, rfl, rfl⟩ := mkF_some h
    left
    obtain ⟨wl, s, i⟩ := x
    obtain ⟨hw, hs⟩ := hP
    simp only at hw hs
    have e := g_moves_of_eq hw hs
    have e2 := g_led_to_eq hw hs (startedS wl s) (stoppedS wl s) i
    simp -implicitDefEqProofs only [startD, sSeq, sSet, sRet, sIf, sSkip, sAsgG, sPar, fTup, f2, fSl, fPart, fNoPart, fVar, fC, fCons, fNil, fIf, fT, fCall, List.map_cons, List.map_nil, List.length_cons, List.length_nil, List.replicate, List.cons_append, List.nil_append, List.getElem?_cons_zero, List.getElem?_cons_succ, List.set_cons_zero, List.set_cons_succ, Option.join_some, Option.join_none, Option.bind_some, Option.map_some, thenR_nx, thenR_rt, asI_int, asB_bool, gAdd_int, gSub_int, gMul_int, gCmpI_int, zBig, Nat.reduceAdd, Nat.reduceLeDiff, Nat.reduceSub, ite_true, ite_false, Bool.false_eq_true, decide_true, decide_false, gIs_none, decide_eq_true_eq, e, e2, setT2, gIx_tup, atI_z]; rfl
theorem fn_after_in {a : Addr} {fd : FuncData} (F : Fun K "after_in" "after_in" (top 35) a fd) (T : Tx mg) (hm : mg "after_in" = some (.ref a)) (D_moves_of : FnD P w K mg base 2 "moves_of" g_moves_of) (D_led_to : FnD P w K mg base 2 "led_to" g_led_to) : FnD P w K mg base 3 "after_in" g_after_in :=
  fnD_of F hm (fun _ _ _ _ _ _ us hl => match us, hl with | [_, _, _], _ => rfl) (ok_after_in F T D_moves_of D_led_to)
theorem g_after_in_eq {wl : Wl} (hw : WOk wl) {s : Sst} (hs : Shp wl s) (i : Int) : g_after_in [encW wl, encS s, .int i] = some (encR (beatS wl s i)) := mkF_eq (a := (wl, s, i)) inj_WSI ⟨hw, hs⟩
theorem inj_I1 : ∀ a b : Int, ([.int a] : List PyData) = [.int b] → a = b := fun a b h => inj_I _ _ (inj1 h).1
theorem sc_is_inflow : FnScope ["thing"] ["thing"] (defScope (top 36)) := ⟨rfl, rfl, rfl, by decide +kernel, rfl, by decide +kernel, by decide +kernel⟩
noncomputable def g_is_inflow : List PyData → Option PyData := mkF (α := Int) (fun x => 0 ≤ x ∧ x ≤ 300) (fun x => [.int x]) (fun _ => .bool true)
theorem ok_is_inflow {a : Addr} {fd : FuncData} (F : Fun K "is_inflow" "is_inflow" (top 36) a fd) (T : Tx mg) (D_is_whole : FnD P w K mg base 1 "is_whole" g_is_whole) : FnOk P w K mg base CX0 2 a fd ["thing"] (spF g_is_inflow K) := by
  refine okD F sc_is_inflow ?_ ?_ (fun cdv A outer s H E hr =>
    (ss_one (s_ret (d_call D_is_whole (hr.mono (by decide)) (da_cons (pd 0) (da_cons d_int (da_cons (d_gint T.c_MOST_INFLOW) da_nil)))))))
  · intro ds d h
    obtain ⟨x, hP, rfl, rfl⟩ := mkF_some h
    rfl
  · intro ds d h
    obtain ⟨x, hP, rfl, rfl⟩ := mkF_some h
    left
    simp -implicitDefEqProofs [hP.1, hP.2]
theorem fn_is_inflow {a : Addr} {fd : FuncData} (F : Fun K "is_inflow" "is_inflow" (top 36) a fd) (T : Tx mg) (hm : mg "is_inflow" = some (.ref a)) (D_is_whole : FnD P w K mg base 1 "is_whole" g_is_whole) : FnD P w K mg base 2 "is_inflow" g_is_inflow :=
  fnD_of F hm (fun _ _ _ _ _ _ us hl => match us, hl with | [_], _ => rfl) (ok_is_inflow F T D_is_whole)
theorem g_is_inflow_eq {i : Int} (h : 0 ≤ i ∧ i ≤ 300) : g_is_inflow [.int i] = some (.bool true) := mkF_eq inj_I1 h
theorem sc_need_state : FnScope ["well", "state"] ["well", "state"] (defScope (top 37)) := ⟨rfl, rfl, rfl, by decide +kernel, rfl, by decide +kernel, by decide +kernel⟩
noncomputable def g_need_state : List PyData → Option PyData := mkF (α := Wl × Sst) (fun x => WOk x.1 ∧ SOk x.1 x.2) (fun x => [encW x.1, encS x.2]) (fun _ => .none)
theorem ok_need_state {a : Addr} {fd : FuncData} (F : Fun K "need_state" "need_state" (top 37) a fd) (T : Tx mg) (D_need_well : FnD P w K mg base 3 "need_well" g_need_well) (D_is_state_of : FnD P w K mg base 3 "is_state_of" g_is_state_of) : FnOk P w K mg base CX0 4 a fd ["well", "state"] (spF g_need_state K) := by
  refine okD F sc_need_state ?_ ?_ (fun cdv A outer s H E hr =>
    (ss_one (s_if (t_not (t_val (d_call D_is_state_of (hr.mono (by decide)) (da_cons (d_call D_need_well (hr.mono (by decide)) (da_cons (pd 0) da_nil)) (da_cons (pd 1) da_nil))))) (ss_one s_never) ss_nil)))
  · intro ds d h
    obtain ⟨x, hP, rfl, rfl⟩ := mkF_some h
    rfl
  · intro ds d h
    obtain ⟨x, hP, rfl, rfl⟩ := mkF_some h
    right
    obtain ⟨wl, s⟩ := x
    obtain ⟨hw, hs⟩ := hP
    simp only at hw hs
    refine ⟨[some (encW wl), some (encS s)], ?_, rfl⟩
    simp -implicitDefEqProofs [g_need_well_eq hw, g_is_state_of_eq hw hs]
theorem fn_need_state {a : Addr} {fd : FuncData} (F : Fun K "need_state" "need_state" (top 37) a fd) (T : Tx mg) (hm : mg "need_state" = some (.ref a)) (D_need_well : FnD P w K mg base 3 "need_well" g_need_well) (D_is_state_of : FnD P w K mg base 3 "is_state_of" g_is_state_of) : FnD P w K mg base 4 "need_state" g_need_state :=
  fnD_of F hm (fun _ _ _ _ _ _ us hl => match us, hl with | [_, _], _ => rfl) (ok_need_state F T D_need_well D_is_state_of)
theorem g_need_state_eq {wl : Wl} (hw : WOk wl) {s : Sst} (hs : SOk wl s) : g_need_state [encW wl, encS s] = some .none := mkF_eq (a := (wl, s)) inj_WS ⟨hw, hs⟩
theorem sc_after : FnScope ["well", "state", "inflow"] ["well", "state", "inflow"] (defScope (top 38)) := ⟨rfl, rfl, rfl, by decide +kernel, rfl, by decide +kernel, by decide +kernel⟩
noncomputable def g_after : List PyData → Option PyData := mkF (α := Wl × Sst × Int) (fun x => WOk x.1 ∧ SOk x.1 x.2.1 ∧ 0 ≤ x.2.2 ∧ x.2.2 ≤ 300) (fun x => [encW x.1, encS x.2.1, .int x.2.2]) (fun x => encR (beatS x.1 x.2.1 x.2.2))
theorem ok_after {a : Addr} {fd : FuncData} (F : Fun K "after" "after" (top 38) a fd) (T : Tx mg) (D_need_state : FnD P w K mg base 4 "need_state" g_need_state) (D_is_inflow : FnD P w K mg base 2 "is_inflow" g_is_inflow) (D_after_in : FnD P w K mg base 3 "after_in" g_after_in) : FnOk P w K mg base CX0 5 a fd ["well", "state", "inflow"] (spF g_after K) := by
  refine okD F sc_after ?_ ?_ (fun cdv A outer s H E hr =>
    (ss_cons (s_exp (d_call D_need_state (hr.mono (by decide)) (da_cons (pd 0) (da_cons (pd 1) da_nil))))
    (ss_cons (s_if (t_not (t_val (d_call D_is_inflow (hr.mono (by decide)) (da_cons (pd 2) da_nil)))) (ss_one s_never) ss_nil)
    (ss_one (s_ret (d_call D_after_in (hr.mono (by decide)) (da_cons (pd 0) (da_cons (pd 1) (da_cons (pd 2) da_nil)))))))))
  · intro ds d h
    obtain ⟨x, hP, rfl, rfl⟩ := mkF_some h
    rfl
  · intro ds d h
    obtain ⟨x, hP, rfl, rfl⟩ := mkF_some h
    left
    obtain ⟨wl, s, i⟩ := x
    obtain ⟨hw, hs, h1, h2⟩ := hP
    simp only at hw hs h1 h2
    simp -implicitDefEqProofs [g_need_state_eq hw hs, g_is_inflow_eq ⟨h1, h2⟩, g_after_in_eq hw hs.toShp]
theorem fn_after {a : Addr} {fd : FuncData} (F : Fun K "after" "after" (top 38) a fd) (T : Tx mg) (hm : mg "after" = some (.ref a)) (D_need_state : FnD P w K mg base 4 "need_state" g_need_state) (D_is_inflow : FnD P w K mg base 2 "is_inflow" g_is_inflow) (D_after_in : FnD P w K mg base 3 "after_in" g_after_in) : FnD P w K mg base 5 "after" g_after :=
  fnD_of F hm (fun _ _ _ _ _ _ us hl => match us, hl with | [_, _, _], _ => rfl) (ok_after F T D_need_state D_is_inflow D_after_in)
theorem g_after_eq {wl : Wl} (hw : WOk wl) {s : Sst} (hs : SOk wl s) {i : Int} (h : 0 ≤ i ∧ i ≤ 300) : g_after [encW wl, encS s, .int i] = some (encR (beatS wl s i)) := mkF_eq (a := (wl, s, i)) inj_WSI ⟨hw, hs, h.1, h.2⟩
end
end Pm
set_option maxHeartbeats 4000000
/-! W3: plain defs of safety.py, walked -/
namespace Pm
open PySem PySem.Spec PyProof.Rows L2
section
variable {P : Program} {w : World} {K : PySem.W.Frag} {mg : Str → Option Value} {base : Heap}
def encP (a b : Int) : PyData := .tuple [.int a, .int b]
theorem encP_inj {a b c d : Int} (h : encP a b = encP c d) : a = c ∧ b = d := by
  simp [encP] at h
  exact h
theorem inj_PI : ∀ a b : (Int × Int) × Int, ([encP a.1.1 a.1.2, .int a.2] : List PyData) = [encP b.1.1 b.1.2, .int b.2] → a = b := fun a b h => by
  obtain ⟨h1, h⟩ := inj1 h
  obtain ⟨h2, h⟩ := inj1 h
  obtain ⟨h3, h4⟩ := encP_inj h1
  exact Prod.ext (Prod.ext h3 h4) (inj_I _ _ h2)
theorem eqv_int (a b : Int) : PyData.eqv (.int a) (.int b) = (a == b) := by rw [PyData.eqv]
theorem ixP0 (a b : Int) : gIx (encP a b) (.int 0) = some (.int a) := rfl
theorem ixP1 (a b : Int) : gIx (encP a b) (.int 1) = some (.int b) := rfl
theorem isTup_P (a b : Int) : (encP a b).isTuple = true := rfl
theorem len_P (a b : Int) : gLen [encP a b] = some (.int 2) := rfl
theorem ixC0 (c : Cl) : gIx (encC c) (.int 0) = some (encW c.w) := rfl
theorem ixC1 (c : Cl) : gIx (encC c) (.int 1) = some (encP c.lo c.hi) := rfl
theorem ixC2 (c : Cl) : gIx (encC c) (.int 2) = some (encP c.frm c.to) := rfl
theorem isTup_C (c : Cl) : (encC c).isTuple = true := rfl
theorem len_C (c : Cl) : gLen [encC c] = some (.int 3) := rfl
theorem sc_is_range : FnScope ["thing", "most"] ["thing", "most"] (defScope (top 43)) := ⟨rfl, rfl, rfl, by decide +kernel, rfl, by decide +kernel, by decide +kernel⟩
noncomputable def g_is_range : List PyData → Option PyData := mkF (α := (Int × Int) × Int) (fun x => 0 ≤ x.1.1 ∧ x.1.1 ≤ x.2 ∧ x.1.1 ≤ x.1.2 ∧ x.1.2 ≤ x.2) (fun x => [encP x.1.1 x.1.2, .int x.2]) (fun _ => .bool true)
theorem ok_is_range {a : Addr} {fd : FuncData} (F : Fun K "is_range" "is_range" (top 43) a fd) (T : Tx mg) (D_is_whole : FnD P w K mg base 1 "is_whole" g_is_whole) : FnOk P w K mg base CX0 2 a fd ["thing", "most"] (spF g_is_range K) := by
  refine okD F sc_is_range ?_ ?_ (fun cdv A outer s H E hr =>
    (ss_cons (s_if (PW.pt (w_or (t_not (t_val (d_isa (T := "tuple") (pd 0) T.b_isinstance T.b_tuple (hT := bt_tuple)))) (w_or (t_cmp (op_neD hr.units) (ov_ne) (d_callB cv_len call_lenP T.b_len (da_cons (pd 0) da_nil) (hv := bt_len)) d_int (nomark _)) (w_or1 (t_not (t_val (d_call D_is_whole (hr.mono (by decide)) (da_cons (d_ix (pd 0) d_int) (da_cons d_int (da_cons (pd 1) da_nil)))))))))) (ss_one (s_ret d_bl)) ss_nil)
    (ss_one (s_ret (d_call D_is_whole (hr.mono (by decide)) (da_cons (d_ix (pd 0) d_int) (da_cons (d_ix (pd 0) d_int) (da_cons (pd 1) da_nil))))))))
  · intro ds d h
    obtain ⟨x, hP, rfl, rfl⟩ := mkF_some h
    rfl
  · intro ds d h
    obtain ⟨x, hP, rfl, rfl⟩ := mkF_some h
    left
    obtain ⟨⟨a, b⟩, m⟩ := x
    obtain ⟨h1, h2, h3, h4⟩ := hP
    simp only at h1 h2 h3 h4
    simp -implicitDefEqProofs [isTup_P, len_P, eqv_int, ixP0, ixP1, h1, h2, h3, h4]
theorem fn_is_range {a : Addr} {fd : FuncData} (F : Fun K "is_range" "is_range" (top 43) a fd) (T : Tx mg) (hm : mg "is_range" = some (.ref a)) (D_is_whole : FnD P w K mg base 1 "is_whole" g_is_whole) : FnD P w K mg base 2 "is_range" g_is_range :=
  fnD_of F hm (fun _ _ _ _ _ _ us hl => match us, hl with | [_, _], _ => rfl) (ok_is_range F T D_is_whole)
theorem g_is_range_eq {a b m : Int} (h1 : 0 ≤ a) (h3 : a ≤ b) (h4 : b ≤ m) : g_is_range [encP a b, .int m] = some (.bool true) := mkF_eq (a := ((a, b), m)) inj_PI ⟨h1, by show a ≤ m; omega, h3, h4⟩
theorem inj_C : ∀ a b : Cl, ([encC a] : List PyData) = [encC b] → a = b := fun a b h => encC_inj (inj1 h).1
theorem sc_need_claim : FnScope ["thing"] ["thing"] (defScope (top 44)) := ⟨rfl, rfl, rfl, by decide +kernel, rfl, by decide +kernel, by decide +kernel⟩
noncomputable def g_need_claim : List PyData → Option PyData := mkF (α := Cl) (fun x => COk x) (fun x => [encC x]) (fun x => encC x)
theorem ok_need_claim {a : Addr} {fd : FuncData} (F : Fun K "need_claim" "need_claim" (top 44) a fd) (T : Tx mg) (D_wrong_part : FnD P w K mg base 2 "wrong_part" g_wrong_part) (D_is_range : FnD P w K mg base 2 "is_range" g_is_range) : FnOk P w K mg base CX0 3 a fd ["thing"] (spF g_need_claim K) := by
  refine okD F sc_need_claim ?_ ?_ (fun cdv A outer s H E hr =>
    (ss_cons (s_if (PW.pt (w_or (t_not (t_val (d_isa (T := "tuple") (pd 0) T.b_isinstance T.b_tuple (hT := bt_tuple)))) (w_or1 (t_cmp (op_neD hr.units) (ov_ne) (d_callB cv_len call_lenP T.b_len (da_cons (pd 0) da_nil) (hv := bt_len)) d_int (nomark _))))) (ss_one s_never) ss_nil)
    (ss_cons (s_if (PW.pt (w_or (t_not (t_val (d_isa (T := "tuple") (d_ix (pd 0) d_int) T.b_isinstance T.b_tuple (hT := bt_tuple)))) (w_or (t_cmp (op_neD hr.units) (ov_ne) (d_callB cv_len call_lenP T.b_len (da_cons (d_ix (pd 0) d_int) da_nil) (hv := bt_len)) d_int (nomark _)) (w_or1 (t_cmp (op_notN) (ov_isnot) (d_call D_wrong_part (hr.mono (by decide)) (da_cons (d_ix (pd 0) d_int) da_nil)) d_non (nomark _)))))) (ss_one s_never) ss_nil)
    (ss_cons (s_if (t_not (t_val (d_call D_is_range (hr.mono (by decide)) (da_cons (d_ix (pd 0) d_int) (da_cons (d_gint T.c_MOST_INFLOW) da_nil))))) (ss_one s_never) ss_nil)
    (ss_cons (s_if (t_not (t_val (d_call D_is_range (hr.mono (by decide)) (da_cons (d_ix (pd 0) d_int) (da_cons (d_ix (d_ix (pd 0) d_int) d_int) da_nil))))) (ss_one s_never) ss_nil)
    (ss_one (s_ret (pd 0))))))))
  · intro ds d h
    obtain ⟨x, hP, rfl, rfl⟩ := mkF_some h
    rfl
  · intro ds d h
    obtain ⟨x, hP, rfl, rfl⟩ := mkF_some h
    left
    have e1 := g_wrong_part_eq hP.w
    obtain ⟨i1, i2, i3⟩ := hP.infl
    obtain ⟨l1, l2, l3⟩ := hP.lvs
    have e2 := g_is_range_eq i1 i2 i3
    have e3 := g_is_range_eq l1 l2 l3
    simp -implicitDefEqProofs [isTup_C, len_C, eqv_int, ixC0, ixC1, ixC2, isTup_W, len_W, ixW0, e1, e2, e3]
theorem fn_need_claim {a : Addr} {fd : FuncData} (F : Fun K "need_claim" "need_claim" (top 44) a fd) (T : Tx mg) (hm : mg "need_claim" = some (.ref a)) (D_wrong_part : FnD P w K mg base 2 "wrong_part" g_wrong_part) (D_is_range : FnD P w K mg base 2 "is_range" g_is_range) : FnD P w K mg base 3 "need_claim" g_need_claim :=
  fnD_of F hm (fun _ _ _ _ _ _ us hl => match us, hl with | [_], _ => rfl) (ok_need_claim F T D_wrong_part D_is_range)
theorem g_need_claim_eq {c : Cl} (h : COk c) : g_need_claim [encC c] = some (encC c) := mkF_eq inj_C h
/-- lo, lo + 1, .. hi -/
def inf (lo hi : Int) : List Int := (List.range (hi + 1 - lo).toNat).map fun (i : Nat) => lo + (i : Int)
theorem rngD_inf (lo hi : Int) : rngD lo (hi + 1 - lo).toNat = (inf lo hi).map PyData.int := by
  unfold rngD inf
  rw [List.map_map]
  rfl
theorem mem_inf {lo hi i : Int} : i ∈ inf lo hi ↔ lo ≤ i ∧ i ≤ hi := by
  unfold inf
  rw [List.mem_map]
  constructor
  · rintro ⟨k, hk, rfl⟩
    rw [List.mem_range] at hk
    omega
  · rintro ⟨h1, h2⟩
    exact ⟨(i - lo).toNat, by rw [List.mem_range]; omega, by omega⟩
theorem inf_length (lo hi : Int) : (inf lo hi).length = (hi + 1 - lo).toNat := by simp [inf]
theorem lcRun_map {α : Type} {set : PyData → DE → Option DE} {fe : DE → Option PyData} {ρ : DE} {en g : α → PyData} : ∀ {xs : List α}, (∀ x ∈ xs, ∃ ρ1, set (en x) ρ = some ρ1 ∧ fe ρ1 = some (g x)) → lcRun set fe ρ (xs.map en) = some (xs.map g)
  | [], _ => rfl
  | n :: ns, h => by
    obtain ⟨ρ1, h1, h2⟩ := h n List.mem_cons_self
    simp only [List.map_cons, lcRun, h1, h2, Option.bind_some]
    rw [lcRun_map fun m hm => h m (List.mem_cons_of_mem _ hm)]
    rfl
theorem noL_I (ns : List Int) : noL (encI ns) = true := by
  show noLAll (ns.map PyData.int) = true
  exact noL_ints ns
theorem noL_O (n : Option Int) : noL (encO n) = true := by cases n <;> rfl
theorem noL_S (s : Sst) : noL (encS s) = true := by
  unfold encS
  simp only [noL, noLAll, noL_I, noL_O, Bool.and_self]
theorem noL_R (r : Rs) : noL (encR r) = true := by
  cases r with
  | over => rfl
  | dry => rfl
  | st s => exact noL_S s
theorem noL_map {α : Type} {g : α → PyData} (h : ∀ x, noL (g x) = true) : ∀ xs : List α, noLAll (xs.map g) = true
  | [] => rfl
  | x :: xs => by
    show (noL (g x) && noLAll (xs.map g)) = true
    rw [h x, noL_map h xs]
    rfl
def encB (w : Wl) (s : Sst) (i : Int) : PyData := .tuple [.int i, encR (beatS w s i), .int (busy w s)]
theorem noL_B (w : Wl) (s : Sst) (i : Int) : noL (encB w s i) = true := by
  unfold encB
  simp only [noL, noLAll, noL_R, Bool.and_self]
theorem inj_WSP : ∀ a b : Wl × Sst × Int × Int, ([encW a.1, encS a.2.1, encP a.2.2.1 a.2.2.2] : List PyData) = [encW b.1, encS b.2.1, encP b.2.2.1 b.2.2.2] → a = b := fun a b h => by
  obtain ⟨h1, h⟩ := inj1 h
  obtain ⟨h2, h⟩ := inj1 h
  obtain ⟨h3, h4⟩ := encP_inj (inj1 h).1
  exact Prod.ext (encW_inj h1) (Prod.ext (encS_inj h2) (Prod.ext h3 h4))
theorem sc_beats_of : FnScope ["well", "state", "inflows", "started", "stopped", "inflow"] ["well", "state", "inflows"] (defScope (top 45)) := ⟨rfl, rfl, rfl, by decide +kernel, rfl, by decide +kernel, by decide +kernel⟩
noncomputable def g_beats_of : List PyData → Option PyData := mkF (α := Wl × Sst × Int × Int) (fun x => WOk x.1 ∧ Shp x.1 x.2.1 ∧ 0 ≤ x.2.2.1 ∧ x.2.2.1 ≤ 300 ∧ 0 ≤ x.2.2.2 ∧ x.2.2.2 ≤ 300) (fun x => [encW x.1, encS x.2.1, encP x.2.2.1 x.2.2.2]) (fun x => .list ((inf x.2.2.1 x.2.2.2).map (encB x.1 x.2.1)))
theorem ok_beats_of {a : Addr} {fd : FuncData} (F : Fun K "beats_of" "beats_of" (top 45) a fd) (T : Tx mg) (D_moves_of : FnD P w K mg base 2 "moves_of" g_moves_of) (D_led_to : FnD P w K mg base 2 "led_to" g_led_to) : FnOk P w K mg base CX0 3 a fd ["well", "state", "inflows"] (spF g_beats_of K) := by
  refine okD F sc_beats_of ?_ ?_ (fun cdv A outer s H E hr =>
    (ss_cons (s_asg (d_call D_moves_of (hr.mono (by decide)) (da_cons (pd 0) (da_cons (pd 1) da_nil))) (pg_tup rfl (pgs_cons (pg_name (i := 3) sc_beats_of.nd rfl (Or.inr rfl)) (pgs_cons (pg_name (i := 4) sc_beats_of.nd rfl (Or.inr rfl)) pgs_nil))) (dg_tup [3, 4] 2))
    (ss_one (s_ret (d_lc (own := [("inflow", 5)]) sc_beats_of.nd (i_rng T.b_range (da_cons (d_ix (pd 2) d_int) (da_cons (d_bin op_addAll ov_add (d_ix (pd 2) d_int) d_int) da_nil))) (blkOk_by (N := ["well", "state", "inflows", "started", "stopped", "inflow"]) (sc := (defScope (top 45))) (by decide +kernel)) (dg_name 5) (by decide) (fun _ _ _ _ _ => (pg_name (i := 5) sc_beats_of.nd rfl (Or.inl rfl))) (fun _ _ _ _ _ => (d_bin op_addAll ov_add (d_tup (da_cons (pd 5) da_nil)) (d_call D_led_to (hr.mono (by decide)) (da_cons (pd 0) (da_cons (pd 1) (da_cons (pd 3) (da_cons (pd 4) (da_cons (pd 5) da_nil)))))))))))))
  · intro ds d h
    obtain ⟨x, hP, rfl, rfl⟩ := mkF_some h
    rfl
  · intro ds d h
    obtain ⟨x, hP, rfl, rfl⟩ := mkF_some h
    left
    obtain ⟨wl, s, lo, hi⟩ := x
    obtain ⟨hw, hs, h1, h2, h3, h4⟩ := hP
    simp only at hw hs h1 h2 h3 h4
    have e := g_moves_of_eq hw hs
    have e3 : ∀ ρ : DE, ρ[0]? = some (some (encW wl)) → ρ[1]? = some (some (encS s)) → ρ[5]? = some (some (.int (startedS wl s))) → ρ[6]? = some (some (.int (stoppedS wl s))) → ρ.length = 7 → True := fun _ _ _ _ _ _ => trivial
    have e2 := fun i => g_led_to_eq hw hs (startedS wl s) (stoppedS wl s) i
    have c1 : -1000000 ≤ lo ∧ lo ≤ 1000000 ∧ -1000000 ≤ hi + 1 ∧ hi + 1 ≤ 1000000 := by omega
    have c2 : (inf lo hi).length ≤ 100000 := by rw [inf_length]; omega
    have e4 := noL_map (noL_B wl s) (inf lo hi)
    simp -implicitDefEqProofs only [startD, sSeq, sSet, sRet, sIf, sSkip, sNever, sAsgG, sPar, fTup, f2, fSl, fPart, fNoPart, fVar, fC, fCons, fNil, fIf, fT, fCall, fIsa, fOrT, fAndT, fNotT, fLc, fRng, fItemsT, fItemsL, List.map_cons, List.map_nil, List.length_cons, List.length_nil, List.replicate, List.cons_append, List.nil_append, List.getElem?_cons_zero, List.getElem?_cons_succ, List.set_cons_zero, List.set_cons_succ, Option.join_some, Option.join_none, Option.bind_some, Option.map_some, thenR_nx, thenR_rt, asI_int, asB_bool, gAdd_int, gSub_int, gMul_int, gCmpI_int, zBig, Nat.reduceAdd, Nat.reduceLeDiff, Nat.reduceSub, ite_true, ite_false, Bool.false_eq_true, decide_true, decide_false, gIs_none, decide_eq_true_eq, isD_tuple, isD_str, isD_int, isD_bool, isTuple_tuple, Bool.not_true, Bool.not_false, asTup_tup, asLst_lst, asRng_int, wipeD, gNe, gEq, shaped_int, shaped_bool, shaped_none, and_self, e, setT2, ixP0, ixP1, c1, rngD_inf, List.length_map, c2]
    rw [lcRun_map (g := encB wl s) fun i hi => ⟨_, rfl, ?_⟩]
    · simp -implicitDefEqProofs only [Option.bind_some, e4, if_true, Option.map_some]
    · simp -implicitDefEqProofs only [startD, sSeq, sSet, sRet, sIf, sSkip, sNever, sAsgG, sPar, fTup, f2, fSl, fPart, fNoPart, fVar, fC, fCons, fNil, fIf, fT, fCall, fIsa, fOrT, fAndT, fNotT, fLc, fRng, fItemsT, fItemsL, List.map_cons, List.map_nil, List.length_cons, List.length_nil, List.replicate, List.cons_append, List.nil_append, List.getElem?_cons_zero, List.getElem?_cons_succ, List.set_cons_zero, List.set_cons_succ, Option.join_some, Option.join_none, Option.bind_some, Option.map_some, thenR_nx, thenR_rt, asI_int, asB_bool, gAdd_int, gSub_int, gMul_int, gCmpI_int, zBig, Nat.reduceAdd, Nat.reduceLeDiff, Nat.reduceSub, ite_true, ite_false, Bool.false_eq_true, decide_true, decide_false, gIs_none, decide_eq_true_eq, isD_tuple, isD_str, isD_int, isD_bool, isTuple_tuple, Bool.not_true, Bool.not_false, asTup_tup, asLst_lst, asRng_int, wipeD, gNe, gEq, shaped_int, shaped_bool, shaped_none, and_self, e2, gAdd_tup, setN]; rfl
theorem fn_beats_of {a : Addr} {fd : FuncData} (F : Fun K "beats_of" "beats_of" (top 45) a fd) (T : Tx mg) (hm : mg "beats_of" = some (.ref a)) (D_moves_of : FnD P w K mg base 2 "moves_of" g_moves_of) (D_led_to : FnD P w K mg base 2 "led_to" g_led_to) : FnD P w K mg base 3 "beats_of" g_beats_of :=
  fnD_of F hm (fun _ _ _ _ _ _ us hl => match us, hl with | [_, _, _], _ => rfl) (ok_beats_of F T D_moves_of D_led_to)
theorem g_beats_of_eq {wl : Wl} (hw : WOk wl) {s : Sst} (hs : Shp wl s) {lo hi : Int} (h1 : 0 ≤ lo) (h2 : lo ≤ 300) (h3 : 0 ≤ hi) (h4 : hi ≤ 300) : g_beats_of [encW wl, encS s, encP lo hi] = some (.list ((inf lo hi).map (encB wl s))) := mkF_eq (a := (wl, s, lo, hi)) inj_WSP ⟨hw, hs, h1, h2, h3, h4⟩
theorem inj_CO : ∀ a b : Cl × Option Int, ([encC a.1, encO a.2] : List PyData) = [encC b.1, encO b.2] → a = b := fun a b h => Prod.ext (encC_inj (inj1 h).1) (encO_inj (inj1 (inj1 h).2).1)
theorem sc_begun_states : FnScope ["claim", "number", "level"] ["claim", "number"] (defScope (top 46)) := ⟨rfl, rfl, rfl, by decide +kernel, rfl, by decide +kernel, by decide +kernel⟩
noncomputable def g_begun_states : List PyData → Option PyData := mkF (α := Cl × Option Int) (fun x => COk x.1) (fun x => [encC x.1, encO x.2]) (fun x => .list ((inf x.1.frm x.1.to).map fun lv => encS (begS x.1.w x.2 lv)))
theorem ok_begun_states {a : Addr} {fd : FuncData} (F : Fun K "begun_states" "begun_states" (top 46) a fd) (T : Tx mg) (D_begun_with : FnD P w K mg base 1 "begun_with" g_begun_with) : FnOk P w K mg base CX0 2 a fd ["claim", "number"] (spF g_begun_states K) := by
  refine okD F sc_begun_states ?_ ?_ (fun cdv A outer s H E hr =>
    (ss_one (s_ret (d_lc (own := [("level", 2)]) sc_begun_states.nd (i_rng T.b_range (da_cons (d_ix (d_ix (pd 0) d_int) d_int) (da_cons (d_bin op_addAll ov_add (d_ix (d_ix (pd 0) d_int) d_int) d_int) da_nil))) (blkOk_by (N := ["claim", "number", "level"]) (sc := (defScope (top 46))) (by decide +kernel)) (dg_name 2) (by decide) (fun _ _ _ _ _ => (pg_name (i := 2) sc_begun_states.nd rfl (Or.inl rfl))) (fun _ _ _ _ _ => (d_call D_begun_with (hr.mono (by decide)) (da_cons (d_ix (pd 0) d_int) (da_cons (pd 1) (da_cons (pd 2) da_nil)))))))))
  · intro ds d h
    obtain ⟨x, hP, rfl, rfl⟩ := mkF_some h
    rfl
  · intro ds d h
    obtain ⟨x, hP, rfl, rfl⟩ := mkF_some h
    left
    obtain ⟨c, n⟩ := x
    simp only at hP
    have e := fun lv => g_begun_with_eq hP.w n lv
    obtain ⟨h1, h2, h3⟩ := hP.lvs
    have h4 := hP.w.top
    have c1 : -1000000 ≤ c.frm ∧ c.frm ≤ 1000000 ∧ -1000000 ≤ c.to + 1 ∧ c.to + 1 ≤ 1000000 := by omega
    have c2 : (inf c.frm c.to).length ≤ 100000 := by rw [inf_length]; omega
    have e4 := noL_map (g := fun lv => encS (begS c.w n lv)) (fun _ => noL_S _) (inf c.frm c.to)
    simp -implicitDefEqProofs only [startD, sSeq, sSet, sRet, sIf, sSkip, sNever, sAsgG, sPar, fTup, f2, fSl, fPart, fNoPart, fVar, fC, fCons, fNil, fIf, fT, fCall, fIsa, fOrT, fAndT, fNotT, fLc, fRng, fItemsT, fItemsL, List.map_cons, List.map_nil, List.length_cons, List.length_nil, List.replicate, List.cons_append, List.nil_append, List.getElem?_cons_zero, List.getElem?_cons_succ, List.set_cons_zero, List.set_cons_succ, Option.join_some, Option.join_none, Option.bind_some, Option.map_some, thenR_nx, thenR_rt, asI_int, asB_bool, gAdd_int, gSub_int, gMul_int, gCmpI_int, zBig, Nat.reduceAdd, Nat.reduceLeDiff, Nat.reduceSub, ite_true, ite_false, Bool.false_eq_true, decide_true, decide_false, gIs_none, decide_eq_true_eq, isD_tuple, isD_str, isD_int, isD_bool, isTuple_tuple, Bool.not_true, Bool.not_false, asTup_tup, asLst_lst, asRng_int, wipeD, gNe, gEq, shaped_int, shaped_bool, shaped_none, and_self, ixC2, ixP0, ixP1, c1, rngD_inf, List.length_map, c2]
    rw [lcRun_map (g := fun lv => encS (begS c.w n lv)) fun i hi => ⟨_, rfl, ?_⟩]
    · simp -implicitDefEqProofs only [Option.bind_some, e4, if_true, Option.map_some]
    · simp -implicitDefEqProofs only [startD, sSeq, sSet, sRet, sIf, sSkip, sNever, sAsgG, sPar, fTup, f2, fSl, fPart, fNoPart, fVar, fC, fCons, fNil, fIf, fT, fCall, fIsa, fOrT, fAndT, fNotT, fLc, fRng, fItemsT, fItemsL, List.map_cons, List.map_nil, List.length_cons, List.length_nil, List.replicate, List.cons_append, List.nil_append, List.getElem?_cons_zero, List.getElem?_cons_succ, List.set_cons_zero, List.set_cons_succ, Option.join_some, Option.join_none, Option.bind_some, Option.map_some, thenR_nx, thenR_rt, asI_int, asB_bool, gAdd_int, gSub_int, gMul_int, gCmpI_int, zBig, Nat.reduceAdd, Nat.reduceLeDiff, Nat.reduceSub, ite_true, ite_false, Bool.false_eq_true, decide_true, decide_false, gIs_none, decide_eq_true_eq, isD_tuple, isD_str, isD_int, isD_bool, isTuple_tuple, Bool.not_true, Bool.not_false, asTup_tup, asLst_lst, asRng_int, wipeD, gNe, gEq, shaped_int, shaped_bool, shaped_none, and_self, ixC0, e, setN]
theorem fn_begun_states {a : Addr} {fd : FuncData} (F : Fun K "begun_states" "begun_states" (top 46) a fd) (T : Tx mg) (hm : mg "begun_states" = some (.ref a)) (D_begun_with : FnD P w K mg base 1 "begun_with" g_begun_with) : FnD P w K mg base 2 "begun_states" g_begun_states :=
  fnD_of F hm (fun _ _ _ _ _ _ us hl => match us, hl with | [_, _], _ => rfl) (ok_begun_states F T D_begun_with)
theorem g_begun_states_eq {c : Cl} (hc : COk c) (n : Option Int) : g_begun_states [encC c, encO n] = some (.list ((inf c.frm c.to).map fun lv => encS (begS c.w n lv))) := mkF_eq (a := (c, n)) inj_CO hc
end
end Pm
set_option maxHeartbeats 4000000
/-! W4: is_run, walked -/
namespace Pm
open PySem PySem.Spec PyProof.Rows L2
section
variable {P : Program} {w : World} {K : PySem.W.Frag} {mg : Str → Option Value} {base : Heap}
theorem eqvAll_ints : ∀ a b : List Int, PyData.eqvAll (a.map .int) (b.map .int) = decide (a = b)
  | [], [] => by simp [PyData.eqvAll]
  | [], b :: bs => by simp [PyData.eqvAll]
  | a :: as, [] => by simp [PyData.eqvAll]
  | a :: as, b :: bs => by
    simp only [List.map_cons, PyData.eqvAll, PyData.eqv, eqvAll_ints as bs]
    by_cases h : a = b <;> simp [h]
theorem eqv_I (a b : List Int) : PyData.eqv (encI a) (encI b) = decide (a = b) := by
  unfold encI
  rw [PyData.eqv, eqvAll_ints]
theorem eqv_O (a b : Option Int) : PyData.eqv (encO a) (encO b) = decide (a = b) := by
  cases a <;> cases b <;> simp [encO, PyData.eqv]
  rfl
theorem eqv_S (a b : Sst) : PyData.eqv (encS a) (encS b) = decide (a = b) := by
  unfold encS
  simp only [PyData.eqv, PyData.eqvAll, eqv_I, eqv_O]
  cases a; cases b
  simp only [Sst.mk.injEq]
  simp [Bool.and_assoc]
  rfl
theorem eqv_R (a b : Rs) : PyData.eqv (encR a) (encR b) = decide (a = b) := by
  cases a <;> cases b <;> first | rfl | skip
  all_goals first
    | (simp only [encR, eqv_S, Rs.st.injEq]; done)
    | (simp only [encR, encS, PyData.eqv]; decide +kernel)
    | (simp only [encR, encS, PyData.eqv]; simp; done)
/-- led on by inflows: nowhere ahead a word -/
def runR (w : Wl) : Rs → List Int → Option Rs
  | r, [] => some r
  | .st s, i :: is => runR w (beatS w s i) is
  | _, _ :: _ => none
theorem agedOn_length (rs : List Int) (a b : Int) (h : rs ≠ []) : (agedOn rs a b).length = rs.length := by
  have hl : 0 < rs.length := List.length_pos_iff.mpr h
  simp [agedOn]
  omega
theorem Shp.beat {w : Wl} (hw : WOk w) {s s' : Sst} (hs : Shp w s) {i : Int} (h : beatS w s i = .st s') : Shp w s' := by
  unfold beatS ledS at h
  split at h
  · cases h
  · split at h
    · cases h
    · cases h
      refine ⟨?_, ?_, ?_⟩
      · show ((pastS w s).length : Int) = w.lag
        have h1 := hs.past
        have h2 := hw.lag
        unfold pastS
        split
        · simp; omega
        · simp; omega
      · show ((agedOn s.runs _ _).length : Int) = w.run
        rw [agedOn_length _ _ _ (hw.runs_ne hs)]
        exact hs.runs
      · show ((agedOff s.rests _).length : Int) = w.rest - 1
        unfold agedOff
        simp
        exact hs.rests
theorem begS_shp {wl : Wl} (hw : WOk wl) (n : Option Int) (lv : Int) : Shp wl (begS wl n lv) := by
  have b1 := hw.lag
  have b2 := hw.run
  have b3 := hw.rest
  refine ⟨?_, ?_, ?_⟩
  · simp [begS]; omega
  · simp [begS]; omega
  · simp [begS]; omega
theorem dummy : True := trivial
abbrev Ru := Cl × Option Int × Rs × Int × List Int
theorem inj_Ru : ∀ a b : Ru, ([encC a.1, encO a.2.1, encR a.2.2.1, .tuple [.int a.2.2.2.1, encI a.2.2.2.2]] : List PyData) = [encC b.1, encO b.2.1, encR b.2.2.1, .tuple [.int b.2.2.2.1, encI b.2.2.2.2]] → a = b := fun a b h => by
  obtain ⟨h1, h⟩ := inj1 h
  obtain ⟨h2, h⟩ := inj1 h
  obtain ⟨h3, h⟩ := inj1 h
  obtain ⟨h4, h⟩ := inj1 h
  injection h4 with h4
  obtain ⟨h5, h6⟩ := inj1 h4
  have h7 := (inj1 h6).1
  have h3' : a.2.2.1 = b.2.2.1 := by
    have := eqv_R a.2.2.1 b.2.2.1
    rw [h3, eqv_R] at this
    simpa using this.symm
  exact Prod.ext (encC_inj h1) (Prod.ext (encO_inj h2) (Prod.ext h3' (Prod.ext (inj_I _ _ h5) (encI_inj h7))))
def isWord : Rs → Bool
  | .st _ => false
  | _ => true
theorem over_in : PyData.tuple [.str "over", .str "dry"] = .tuple [encR .over, encR .dry] := rfl
theorem shaped_RR (a b : Rs) : SeqAt.shaped (.tuple [encR a, encR b]) = true := by
  have h1 := shaped_encR a
  have h2 := shaped_encR b
  unfold SeqAt.shaped at h1 h2 ⊢
  simp only [Bool.and_eq_true, decide_eq_true_eq] at h1 h2
  have e1 : ∀ r : Rs, (encR r).depth ≤ 3 := fun r => by
    cases r with
    | over => decide
    | dry => decide
    | st s => exact encS_depth s
  have a1 := e1 a
  have a2 := e1 b
  simp only [PyData.canLay0, PyData.canLayAll0, h1.1, h2.1, PyData.depth, PyData.depthAll, Bool.and_self, Bool.true_and, decide_eq_true_eq]
  exact decide_eq_true (by omega)
theorem in_words (r : Rs) : gIn (encR r) (.tuple [encR .over, encR .dry]) = some (.bool (isWord r)) := by
  rw [gIn_tup, if_pos ⟨shaped_encR r, shaped_RR _ _⟩]
  simp only [List.any_cons, List.any_nil, eqv_R]
  cases r <;> simp [isWord]
theorem in_words_S (s : Sst) : gIn (encS s) (.tuple [encR .over, encR .dry]) = some (.bool false) := in_words (.st s)
theorem sc_is_run : FnScope ["claim", "number", "word", "thing", "state", "inflow"] ["claim", "number", "word", "thing"] (defScope (top 53)) := ⟨rfl, rfl, rfl, by decide +kernel, rfl, by decide +kernel, by decide +kernel⟩
noncomputable def g_is_run : List PyData → Option PyData := mkF (α := Ru) (fun x => COk x.1 ∧ isWord x.2.2.1 = true ∧ x.1.frm ≤ x.2.2.2.1 ∧ x.2.2.2.1 ≤ x.1.to ∧ (∀ i ∈ x.2.2.2.2, x.1.lo ≤ i ∧ i ≤ x.1.hi) ∧ x.2.2.2.2.length ≤ 100000) (fun x => [encC x.1, encO x.2.1, encR x.2.2.1, .tuple [.int x.2.2.2.1, encI x.2.2.2.2]]) (fun x => .bool (decide (x.2.2.2.2 ≠ [] ∧ runR x.1.w (.st (begS x.1.w x.2.1 x.2.2.2.1)) x.2.2.2.2 = some x.2.2.1)))
theorem ok_is_run {a : Addr} {fd : FuncData} (F : Fun K "is_run" "is_run" (top 53) a fd) (T : Tx mg) (D_is_whole : FnD P w K mg base 1 "is_whole" g_is_whole) (D_begun_with : FnD P w K mg base 1 "begun_with" g_begun_with) (D_after_in : FnD P w K mg base 3 "after_in" g_after_in) : FnOk P w K mg base CX0 4 a fd ["claim", "number", "word", "thing"] (spF g_is_run K) := by
  refine okD F sc_is_run ?_ ?_ (fun cdv A outer s H E hr =>
    (ss_cons (s_if (PW.pt (w_or (t_not (t_val (d_isa (T := "tuple") (pd 3) T.b_isinstance T.b_tuple (hT := bt_tuple)))) (w_or (t_cmp (op_neD hr.units) (ov_ne) (d_callB cv_len call_lenP T.b_len (da_cons (pd 3) da_nil) (hv := bt_len)) d_int (nomark _)) (w_or1 (t_not (t_val (d_call D_is_whole (hr.mono (by decide)) (da_cons (d_ix (pd 3) d_int) (da_cons (d_ix (d_ix (pd 0) d_int) d_int) (da_cons (d_ix (d_ix (pd 0) d_int) d_int) da_nil)))))))))) (ss_one (s_ret d_bl)) ss_nil)
    (ss_cons (s_if (PW.pt (w_or (t_not (t_val (d_isa (T := "tuple") (d_ix (pd 3) d_int) T.b_isinstance T.b_tuple (hT := bt_tuple)))) (w_or1 (t_cmp (op_eqD hr.units) (ov_eq) (d_ix (pd 3) d_int) (d_tup da_nil) (nomark _))))) (ss_one (s_ret d_bl)) ss_nil)
    (ss_cons (s_if (t_not (t_val (d_callB cv_all (cr_all rfl) T.b_all (da_cons (d_lc (own := [("inflow", 5)]) sc_is_run.nd (i_tup (d_ix (pd 3) d_int)) (blkOk_by (N := ["claim", "number", "word", "thing", "state", "inflow"]) (sc := (defScope (top 53))) (by decide +kernel)) (dg_name 5) (by decide) (fun _ _ _ _ _ => (pg_name (i := 5) sc_is_run.nd rfl (Or.inl rfl))) (fun _ _ _ _ _ => (d_call D_is_whole (hr.mono (by decide)) (da_cons (pd 5) (da_cons (d_ix (d_ix (pd 0) d_int) d_int) (da_cons (d_ix (d_ix (pd 0) d_int) d_int) da_nil)))))) da_nil) (hv := bt_all)))) (ss_one (s_ret d_bl)) ss_nil)
    (ss_cons (s_set 4 sc_is_run.nd (d_call D_begun_with (hr.mono (by decide)) (da_cons (d_ix (pd 0) d_int) (da_cons (pd 1) (da_cons (d_ix (pd 3) d_int) da_nil)))))
    (ss_cons (s_for PassesOwn.never (i_tup (d_ix (pd 3) d_int)) (pg_name (i := 5) sc_is_run.nd rfl (Or.inl rfl)) (dg_name 5) (ss_cons (s_if (t_cmp (op_inT hr.u66) (ov_in) (pd 4) (d_tup (da_cons (d_gstr T.c_OVER) (da_cons (d_gstr T.c_DRY) da_nil))) (by rfl)) (ss_one (s_ret d_bl)) ss_nil)
    (ss_one (s_set 4 sc_is_run.nd (d_call D_after_in (hr.mono (by decide)) (da_cons (d_ix (pd 0) d_int) (da_cons (pd 4) (da_cons (pd 5) da_nil))))))))
    (ss_one (s_ret (d_cmp (op_eqD hr.units) (ov_eq) (pd 4) (pd 2) (nomark _))))))))))
  · intro ds d h
    obtain ⟨x, hP, rfl, rfl⟩ := mkF_some h
    rfl
  · intro ds d h
    obtain ⟨x, hP, rfl, rfl⟩ := mkF_some h
    left
    obtain ⟨c, n, wd, lv, is⟩ := x
    obtain ⟨hc, hw, h1, h2, h3, h4⟩ := hP
    simp only at hc hw h1 h2 h3 h4
    have t1 : (PyData.tuple [.int lv, encI is]).isTuple = true := rfl
    have t2 : gLen [.tuple [.int lv, encI is]] = some (.int 2) := rfl
    have t3 : gIx (.tuple [.int lv, encI is]) (.int 0) = some (.int lv) := rfl
    have t4 : gIx (.tuple [.int lv, encI is]) (.int 1) = some (encI is) := rfl
    have e0 : SeqAt.shaped (.tuple []) = true := by decide
    have e1 : PyData.eqv (encI is) (.tuple []) = decide (is = []) := eqv_I is []
    by_cases hn : is = []
    · subst hn
      simp -implicitDefEqProofs only [startD, sSeq, sSet, sRet, sIf, sSkip, sNever, sAsgG, sPar, fTup, f2, fSl, fPart, fNoPart, fVar, fC, fCons, fNil, fIf, fT, fCall, fIsa, fOrT, fAndT, fNotT, fLc, fRng, fItemsT, fItemsL, List.map_cons, List.map_nil, List.length_cons, List.length_nil, List.replicate, List.cons_append, List.nil_append, List.getElem?_cons_zero, List.getElem?_cons_succ, List.set_cons_zero, List.set_cons_succ, Option.join_some, Option.join_none, Option.bind_some, Option.map_some, thenR_nx, thenR_rt, asI_int, asB_bool, gAdd_int, gSub_int, gMul_int, gCmpI_int, zBig, Nat.reduceAdd, Nat.reduceLeDiff, Nat.reduceSub, ite_true, ite_false, Bool.false_eq_true, decide_true, decide_false, gIs_none, decide_eq_true_eq, isD_tuple, isD_str, isD_int, isD_bool, isTuple_tuple, Bool.not_true, Bool.not_false, asTup_tup, asLst_lst, asRng_int, wipeD, gNe, gEq, shaped_int, shaped_bool, shaped_none, and_self, t1, t2, t3, t4, ixC2, ixP0, ixP1, g_is_whole_eq, h1, h2, decide_true, Bool.and_self, isTup_I, shaped_encI, e0, e1, eqv_int, bne, beq_self_eq_true, Bool.not_true, ne_eq, not_true_eq_false, false_and]
    · have e2 := lcRun_bools (set := setN 5) (fe := fCall g_is_whole (fCons (fVar 5) (fCons (f2 gIx (f2 gIx (fVar 0) (fC (.int 1))) (fC (.int 0))) (fCons (f2 gIx (f2 gIx (fVar 0) (fC (.int 1))) (fC (.int 1))) fNil)))) (ρ := [some (encC c), some (encO n), some (encR wd), some (.tuple [.int lv, encI is]), none, none]) (p := fun i => decide (c.lo ≤ i) && decide (i ≤ c.hi)) (ns := is) (fun i hi => by
        refine ⟨_, rfl, ?_⟩
        simp -implicitDefEqProofs [ixC1, ixP0, ixP1])
      have e3 : (is.map fun i => decide (c.lo ≤ i) && decide (i ≤ c.hi)).all id = true := all_true fun i hi => by
        obtain ⟨a1, a2⟩ := h3 i hi
        simp [a1, a2]
      have e4 := noL_bools (is.map fun i => decide (c.lo ≤ i) && decide (i ≤ c.hi))
      have e5 : asTup (encI is) = some (is.map .int) := rfl
      have e6 := g_begun_with_eq hc.w n lv
      have lp : ∀ (js : List Int) (r : Rs) (x : Option PyData), (∀ s, r = .st s → Shp c.w s) → forRun (setN 5) (sSeq (sIf (fT (f2 gIn (fVar 4) (fTup (fCons (fC (.str "over")) (fCons (fC (.str "dry")) fNil))))) (sRet (fC (.bool false))) sSkip) (sSet 4 (fCall g_after_in (fCons (f2 gIx (fVar 0) (fC (.int 0))) (fCons (fVar 4) (fCons (fVar 5) fNil)))))) [some (encC c), some (encO n), some (encR wd), some (.tuple [.int lv, encI is]), some (encR r), x] (js.map .int) =
          (match runR c.w r js with
            | some r' => some (.nx [some (encC c), some (encO n), some (encR wd), some (.tuple [.int lv, encI is]), some (encR r'), if js = [] then x else (js.getLast?).map .int])
            | none => some (.rt (.bool false))) := by
        intro js
        induction js with
        | nil => intro r x _; rfl
        | cons j js ih =>
          intro r x hr
          cases hq : r with
          | over => simp -implicitDefEqProofs only [List.map_cons, forRun, setN, startD, sSeq, sSet, sRet, sIf, sSkip, sNever, sAsgG, sPar, fTup, f2, fSl, fPart, fNoPart, fVar, fC, fCons, fNil, fIf, fT, fCall, fIsa, fOrT, fAndT, fNotT, fLc, fRng, fItemsT, fItemsL, List.map_cons, List.map_nil, List.length_cons, List.length_nil, List.replicate, List.cons_append, List.nil_append, List.getElem?_cons_zero, List.getElem?_cons_succ, List.set_cons_zero, List.set_cons_succ, Option.join_some, Option.join_none, Option.bind_some, Option.map_some, thenR_nx, thenR_rt, asI_int, asB_bool, gAdd_int, gSub_int, gMul_int, gCmpI_int, zBig, Nat.reduceAdd, Nat.reduceLeDiff, Nat.reduceSub, ite_true, ite_false, Bool.false_eq_true, decide_true, decide_false, gIs_none, decide_eq_true_eq, isD_tuple, isD_str, isD_int, isD_bool, isTuple_tuple, Bool.not_true, Bool.not_false, asTup_tup, asLst_lst, asRng_int, wipeD, gNe, gEq, shaped_int, shaped_bool, shaped_none, and_self, over_in, in_words, isWord, runR]
          | dry => simp -implicitDefEqProofs only [List.map_cons, forRun, setN, startD, sSeq, sSet, sRet, sIf, sSkip, sNever, sAsgG, sPar, fTup, f2, fSl, fPart, fNoPart, fVar, fC, fCons, fNil, fIf, fT, fCall, fIsa, fOrT, fAndT, fNotT, fLc, fRng, fItemsT, fItemsL, List.map_cons, List.map_nil, List.length_cons, List.length_nil, List.replicate, List.cons_append, List.nil_append, List.getElem?_cons_zero, List.getElem?_cons_succ, List.set_cons_zero, List.set_cons_succ, Option.join_some, Option.join_none, Option.bind_some, Option.map_some, thenR_nx, thenR_rt, asI_int, asB_bool, gAdd_int, gSub_int, gMul_int, gCmpI_int, zBig, Nat.reduceAdd, Nat.reduceLeDiff, Nat.reduceSub, ite_true, ite_false, Bool.false_eq_true, decide_true, decide_false, gIs_none, decide_eq_true_eq, isD_tuple, isD_str, isD_int, isD_bool, isTuple_tuple, Bool.not_true, Bool.not_false, asTup_tup, asLst_lst, asRng_int, wipeD, gNe, gEq, shaped_int, shaped_bool, shaped_none, and_self, over_in, in_words, isWord, runR]
          | st s =>
            have hsp := hr s hq
            simp -implicitDefEqProofs only [List.map_cons, forRun, setN, startD, sSeq, sSet, sRet, sIf, sSkip, sNever, sAsgG, sPar, fTup, f2, fSl, fPart, fNoPart, fVar, fC, fCons, fNil, fIf, fT, fCall, fIsa, fOrT, fAndT, fNotT, fLc, fRng, fItemsT, fItemsL, List.map_cons, List.map_nil, List.length_cons, List.length_nil, List.replicate, List.cons_append, List.nil_append, List.getElem?_cons_zero, List.getElem?_cons_succ, List.set_cons_zero, List.set_cons_succ, Option.join_some, Option.join_none, Option.bind_some, Option.map_some, thenR_nx, thenR_rt, asI_int, asB_bool, gAdd_int, gSub_int, gMul_int, gCmpI_int, zBig, Nat.reduceAdd, Nat.reduceLeDiff, Nat.reduceSub, ite_true, ite_false, Bool.false_eq_true, decide_true, decide_false, gIs_none, decide_eq_true_eq, isD_tuple, isD_str, isD_int, isD_bool, isTuple_tuple, Bool.not_true, Bool.not_false, asTup_tup, asLst_lst, asRng_int, wipeD, gNe, gEq, shaped_int, shaped_bool, shaped_none, and_self, over_in, in_words_S, runR, ixC0, show encR (.st s) = encS s from rfl, g_after_in_eq hc.w hsp]
            rw [ih (beatS c.w s j) _ fun s' e => hsp.beat hc.w e]
            cases runR c.w (beatS c.w s j) js with
            | none => rfl
            | some r' =>
              simp only
              congr 3
              cases js with
              | nil => rfl
              | cons k ks => simp
      have e7 := lp is (.st (begS c.w n lv)) none (fun s e => by cases e; exact begS_shp hc.w n lv)
      simp only [show encR (.st (begS c.w n lv)) = encS (begS c.w n lv) from rfl] at e7
      simp -implicitDefEqProofs only [startD, sSeq, sSet, sRet, sIf, sSkip, sNever, sAsgG, sPar, fTup, f2, fSl, fPart, fNoPart, fVar, fC, fCons, fNil, fIf, fT, fCall, fIsa, fOrT, fAndT, fNotT, fLc, fRng, fItemsT, fItemsL, List.map_cons, List.map_nil, List.length_cons, List.length_nil, List.replicate, List.cons_append, List.nil_append, List.getElem?_cons_zero, List.getElem?_cons_succ, List.set_cons_zero, List.set_cons_succ, Option.join_some, Option.join_none, Option.bind_some, Option.map_some, thenR_nx, thenR_rt, asI_int, asB_bool, gAdd_int, gSub_int, gMul_int, gCmpI_int, zBig, Nat.reduceAdd, Nat.reduceLeDiff, Nat.reduceSub, ite_true, ite_false, Bool.false_eq_true, decide_true, decide_false, gIs_none, decide_eq_true_eq, isD_tuple, isD_str, isD_int, isD_bool, isTuple_tuple, Bool.not_true, Bool.not_false, asTup_tup, asLst_lst, asRng_int, wipeD, gNe, gEq, shaped_int, shaped_bool, shaped_none, and_self, t1, t2, t3, t4, ixC2, ixP0, ixP1, g_is_whole_eq, h1, h2, decide_true, Bool.and_self, isTup_I, shaped_encI, e0, e1, hn, eqv_int, bne, beq_self_eq_true, ne_eq, not_false_eq_true, true_and, e5, List.length_map, h4, e2, e4, gAll_lst, bools_map, e3, ixC0, e6, sFor, e7]
      cases hq : runR c.w (.st (begS c.w n lv)) is with
      | none => simp -implicitDefEqProofs only [Option.bind_some, thenR_rt, reduceCtorEq, decide_false]
      | some r => simp -implicitDefEqProofs only [startD, sSeq, sSet, sRet, sIf, sSkip, sNever, sAsgG, sPar, fTup, f2, fSl, fPart, fNoPart, fVar, fC, fCons, fNil, fIf, fT, fCall, fIsa, fOrT, fAndT, fNotT, fLc, fRng, fItemsT, fItemsL, List.map_cons, List.map_nil, List.length_cons, List.length_nil, List.replicate, List.cons_append, List.nil_append, List.getElem?_cons_zero, List.getElem?_cons_succ, List.set_cons_zero, List.set_cons_succ, Option.join_some, Option.join_none, Option.bind_some, Option.map_some, thenR_nx, thenR_rt, asI_int, asB_bool, gAdd_int, gSub_int, gMul_int, gCmpI_int, zBig, Nat.reduceAdd, Nat.reduceLeDiff, Nat.reduceSub, ite_true, ite_false, Bool.false_eq_true, decide_true, decide_false, gIs_none, decide_eq_true_eq, isD_tuple, isD_str, isD_int, isD_bool, isTuple_tuple, Bool.not_true, Bool.not_false, asTup_tup, asLst_lst, asRng_int, wipeD, gNe, gEq, shaped_int, shaped_bool, shaped_none, and_self, shaped_encR, eqv_R, Option.some.injEq]
theorem fn_is_run {a : Addr} {fd : FuncData} (F : Fun K "is_run" "is_run" (top 53) a fd) (T : Tx mg) (hm : mg "is_run" = some (.ref a)) (D_is_whole : FnD P w K mg base 1 "is_whole" g_is_whole) (D_begun_with : FnD P w K mg base 1 "begun_with" g_begun_with) (D_after_in : FnD P w K mg base 3 "after_in" g_after_in) : FnD P w K mg base 4 "is_run" g_is_run :=
  fnD_of F hm (fun _ _ _ _ _ _ us hl => match us, hl with | [_, _, _, _], _ => rfl) (ok_is_run F T D_is_whole D_begun_with D_after_in)
theorem g_is_run_eq {c : Cl} (hc : COk c) (n : Option Int) {wd : Rs} (hw : isWord wd = true) {lv : Int} (h1 : c.frm ≤ lv) (h2 : lv ≤ c.to) {is : List Int} (h3 : ∀ i ∈ is, c.lo ≤ i ∧ i ≤ c.hi) (h4 : is.length ≤ 100000) :
    g_is_run [encC c, encO n, encR wd, .tuple [.int lv, encI is]] = some (.bool (decide (is ≠ [] ∧ runR c.w (.st (begS c.w n lv)) is = some wd))) := mkF_eq (a := (c, n, wd, lv, is)) inj_Ru ⟨hc, hw, h1, h2, h3, h4⟩
end
end Pm
set_option maxHeartbeats 4000000
/-! DD: dicts whose keys are states. -/
namespace L2
open PySem PySem.Spec PyProof.Rows Pm

mutual
def toK : PyData → Option NestedKey
  | .none => some .none
  | .int i => some (.num i)
  | .str x => some (.text x)
  | .tuple xs => (toKs xs).map .tup
  | _ => none
def toKs : List PyData → Option (List NestedKey)
  | [] => some []
  | x :: xs => (toK x).bind fun k => (toKs xs).map (k :: ·)
end
section
variable {X : Cx} {pins : List (Addr × Obj)} {σ : St} {H : Hp} {s : Shared}
mutual
theorem Dp.nested (I : Inv X pins σ H s) : ∀ (d : PyData) (v : V) (u : Value) (k : NestedKey), Dp X.K H v d → toK d = some k → RelV v u → NestedIs s.heap k u
  | .none, _, _, _, h, e, r => by cases h; cases e; cases r; exact .none
  | .int i, _, _, _, h, e, r => by
    cases h
    cases e
    obtain ⟨t, rfl⟩ := r
    exact .int i t
  | .str x, _, _, _, h, e, r => by
    cases h
    cases e
    obtain ⟨t, rfl⟩ := r
    exact .text x t
  | .tuple ds, _, _, _, h, e, r => by
    cases h with
    | tup hx dx =>
      rw [toK] at e
      obtain ⟨ks, h1, rfl⟩ := Option.map_eq_some_iff.mp e
      cases r
      obtain ⟨its, rv, ⟨o, ho, hc, n, hd⟩, hz⟩ := I.tuple hx
      exact .tup ho hc hd (Dp.nestedAll I ds _ its ks dx h1 (by simpa using rv))
  | .bool b, _, _, _, h, e, r => by cases e
  | .list b, _, _, _, h, e, r => by cases e
  | .dict b, _, _, _, h, e, r => by cases e
theorem Dp.nestedAll (I : Inv X pins σ H s) : ∀ (ds : List PyData) (vs : List V) (us : List Value) (ks : List NestedKey), DpAll X.K H vs ds → toKs ds = some ks → Vals vs us → NestedAll s.heap ks us
  | [], _, _, _, h, e, r => by
    cases h
    cases r
    rw [toKs] at e
    cases e
    exact .nil
  | d :: ds, _, _, _, h, e, r => by
    cases h with
    | cons h1 h2 =>
      cases r with
      | cons r1 r2 =>
        rw [toKs] at e
        obtain ⟨k, e1, e2⟩ := Option.bind_eq_some_iff.mp e
        obtain ⟨ks, e3, rfl⟩ := Option.map_eq_some_iff.mp e2
        exact .cons (Dp.nested I d _ _ k h1 e1 r1) (Dp.nestedAll I ds _ _ ks h2 e3 r2)
end
end
def kI (ns : List Int) : NestedKey := .tup (ns.map .num)
def kO : Option Int → NestedKey
  | none => .none
  | some n => .num n
def kS (s : Sst) : NestedKey := .tup [.num s.lv, kI s.past, kI s.runs, kI s.rests, kO s.ready]
theorem toKs_ints (ns : List Int) : toKs (ns.map .int) = some (ns.map .num) := by
  induction ns with
  | nil => rfl
  | cons a r ih => simp [toKs, toK, ih]
theorem toK_I (ns : List Int) : toK (encI ns) = some (kI ns) := by
  unfold encI kI
  rw [toK, toKs_ints]
  rfl
theorem toK_O (n : Option Int) : toK (encO n) = some (kO n) := by cases n <;> rfl
theorem toK_S (s : Sst) : toK (encS s) = some (kS s) := by
  unfold encS kS
  simp only [toK, toKs, toK_I, toK_O, Option.bind_some, Option.map_some]
theorem num_inj : ∀ {a b : List Int}, a.map NestedKey.num = b.map NestedKey.num → a = b
  | [], [], _ => rfl
  | a :: as, b :: bs, h => by
    simp at h
    obtain ⟨h1, h2⟩ := h
    rw [h1, num_inj (a := as) (b := bs) (by simpa using h2)]
theorem kI_inj {a b : List Int} (h : kI a = kI b) : a = b := by
  unfold kI at h
  injection h with h
  exact num_inj h
theorem kO_inj {a b : Option Int} (h : kO a = kO b) : a = b := by
  cases a <;> cases b <;> simp [kO] at h ⊢
  exact h
theorem kS_inj {a b : Sst} (h : kS a = kS b) : a = b := by
  cases a; cases b
  unfold kS at h
  injection h with h
  injection h with h1 h
  injection h with h2 h
  injection h with h3 h
  injection h with h4 h
  injection h with h5 h
  injection h1 with h1
  simp only at h1 h2 h3 h4 h5
  rw [h1, kI_inj h2, kI_inj h3, kI_inj h4, kO_inj h5]
theorem depth_nums (ns : List Int) : NestedKey.depthAll (ns.map NestedKey.num) = 0 := by
  induction ns with
  | nil => rfl
  | cons a r ih => simp [NestedKey.depthAll, NestedKey.depth, ih]
theorem kS_depth (s : Sst) : (kS s).depth ≤ 8 := by
  have h1 : ∀ ns, (kI ns).depth ≤ 1 := fun ns => by
    unfold kI
    rw [NestedKey.depth, depth_nums]
    decide
  have h2 : (kO s.ready).depth ≤ 1 := by cases s.ready <;> simp [kO, NestedKey.depth]
  have a1 := h1 s.past
  have a2 := h1 s.runs
  have a3 := h1 s.rests
  unfold kS
  simp only [NestedKey.depth, NestedKey.depthAll]
  omega

/-! ### a dict of states -/
def rawD (P : Program) (w : World) (d : Addr) (xs : List (NestedKey × Addr × Value)) (h : Heap) : Prop :=
  ∃ o es ep, h.get? d = some o ∧ o.ExactDict ∧ o.data = .dict es ep ∧ es.toList = xs.map (entryOfKey (nestedKind P w)) ∧ (xs.map (·.1)).Nodup
def EnR (K : PySem.W.Frag) (H : Hp) (p : Sst × V) (q : NestedKey × Addr × Value) : Prop := q.1 = kS p.1 ∧ Dp K H (.ref q.2.1) (encS p.1) ∧ RelV p.2 q.2.2
/-- at d stands a dict of states -/
structure DSt (P : Program) (w : World) (K : PySem.W.Frag) (H : Hp) (d : Addr) (kvs : List (Sst × V)) : Prop where
  len : kvs.length ≤ sizeLine
  nm : (d == sysModules) = false
  ex : ∃ xs, Paired (EnR K H) kvs xs ∧ H d = some (.ext (rawD P w d xs))
section
variable {P : Program} {w : World} {K : PySem.W.Frag} {H H' : Hp} {d : Addr} {kvs : List (Sst × V)}
theorem DSt.same (h : DSt P w K H d kvs) (e : Same H H') : DSt P w K H' d kvs := by
  obtain ⟨h1, h2, xs, h3, h4⟩ := h
  exact ⟨h1, h2, xs, Paired.mapP h3 fun p q r => ⟨r.1, r.2.1.same e, r.2.2⟩, e _ _ h4⟩
theorem DSt.upd {p : Addr} {o : HO} (h : DSt P w K H d kvs) (hp : NoSeq (H p)) (hd : d ≠ p) : DSt P w K (L2.upd H p o) d kvs := by
  obtain ⟨h1, h2, xs, h3, h4⟩ := h
  exact ⟨h1, h2, xs, Paired.mapP h3 fun p q r => ⟨r.1, Dp.upd hp r.2.1 (noL_S _), r.2.2⟩, by rw [upd_ne hd]; exact h4⟩
theorem DSt.noSeq (h : DSt P w K H d kvs) : NoSeq (H d) := by
  obtain ⟨_, _, xs, _, h4⟩ := h
  rw [h4]
  exact ⟨fun _ z => (nomatch z), fun _ _ z => (nomatch z)⟩
theorem DSt.mut (h : DSt P w K H d kvs) : Mut (H d) := by
  obtain ⟨_, _, xs, _, h4⟩ := h
  rw [h4]
  exact True.intro
theorem DSt.some (h : DSt P w K H d kvs) : ∃ φ, H d = some (.ext φ) := by
  obtain ⟨_, _, xs, _, h4⟩ := h
  exact ⟨_, h4⟩
/-- the value at a state -/
def getS (kvs : List (Sst × V)) (st : Sst) : Option V := (kvs.find? fun p => decide (p.1 = st)).map (·.2)
theorem atKey_get : ∀ {kvs : List (Sst × V)} {xs : List (NestedKey × Addr × Value)} {st : Sst}, Paired (EnR K H) kvs xs → RelO (getS kvs st) ((atKey xs (kS st)).map (·.2))
  | [], _, st, .nil => True.intro
  | p :: kvs, _, st, .cons r t => by
    obtain ⟨r1, r2, r3⟩ := r
    by_cases h : p.1 = st
    · subst h
      simp [getS, atKey, r1, RelO, r3]
    · have h2 : ¬ kS p.1 = kS st := fun e => h (kS_inj e)
      have ih := atKey_get (st := st) t
      simpa [getS, atKey, r1, h, h2] using ih
theorem getS_none {kvs : List (Sst × V)} {xs : List (NestedKey × Addr × Value)} {st : Sst} (r : Paired (EnR K H) kvs xs) (h : getS kvs st = none) : atKey xs (kS st) = none := by
  have q := atKey_get (st := st) r
  rw [h] at q
  cases e : atKey xs (kS st) with
  | none => rfl
  | some p =>
    rw [e] at q
    exact q.elim
theorem paired_append {α β : Type} {R : α → β → Prop} : ∀ {as : List α} {bs : List β} {a : α} {b : β}, Paired R as bs → R a b → Paired R (as ++ [a]) (bs ++ [b])
  | _, _, _, _, .nil, h => .cons h .nil
  | _, _, _, _, .cons r t, h => .cons r (paired_append t h)
end
section
variable {X : Cx} {pins : List (Addr × Obj)} {σ : St} {H : Hp} {s : Shared} {d : Addr} {kvs : List (Sst × V)}
theorem Inv.keyIs (I : Inv X pins σ H s) {st : Sst} {a : Addr} (h : Dp X.K H (.ref a) (encS st)) : (nestedKind X.prog X.w).is s.heap (kS st) a := ⟨Dp.nested I _ _ _ _ h (toK_S st) rfl, kS_depth st⟩
theorem paired_mem {α β : Type} {R : α → β → Prop} : ∀ {as : List α} {bs : List β} {b : β}, Paired R as bs → b ∈ bs → ∃ a, R a b
  | _, _, b, .nil, h => by simp at h
  | _, _, b, .cons r t, h => by
    rcases List.mem_cons.mp h with e | h
    · subst e; exact ⟨_, r⟩
    · exact paired_mem t h
theorem Inv.dst (I : Inv X pins σ H s) {xs : List (NestedKey × Addr × Value)} (r : Paired (EnR X.K H) kvs xs) (h : H d = some (.ext (rawD X.prog X.w d xs))) : s.heap.DictOfH (nestedKind X.prog X.w) d xs := by
  obtain ⟨⟨o, es, ep, h1, h2, h3, h4, h5⟩, _, _⟩ := I.hok d _ h
  refine ⟨o, es, ep, h1, h2, h3, h4, fun x hx => ?_, h5⟩
  obtain ⟨p, q1, q2, q3⟩ := paired_mem r hx
  rw [q1]
  exact I.keyIs q2
theorem ext_ok {P : Program} {w : World} {H' : Hp} {h' : Heap} {xs : List (NestedKey × Addr × Value)} (h : h'.DictOfH (nestedKind P w) d xs) : ObjOk P w H' h' d (.ext (rawD P w d xs)) := by
  obtain ⟨o, es, ep, h1, h2, h3, h4, _, h5⟩ := h
  refine ⟨⟨o, es, ep, h1, h2, h3, h4, h5⟩, ⟨o, h1⟩, fun a b ⟨o', es', ep', q1, q2⟩ k => ⟨o', es', ep', k _ q1, q2⟩⟩
theorem room_nested {A : Around} (hu : A.units + 64 < cLine) : (nestedKind X.prog X.w).room A := by
  show A.units + 8 < cLine
  omega
theorem room_nested1 {A : Around} (hu : A.units + 64 < cLine) : (nestedKind X.prog X.w).room A.in1 := by
  show A.units + 1 + 8 < cLine
  omega
/-- x in d, x not in d -/
def rInS (P : Program) (w : World) (K : PySem.W.Frag) : R2 := fun x y H Q => ∃ d st kvs, y = .ref d ∧ Dp K H x (encS st) ∧ DSt P w K H d kvs ∧ Q (.bl (getS kvs st).isSome) H
def rNotInS (P : Program) (w : World) (K : PySem.W.Frag) : R2 := fun x y H Q => ∃ d st kvs, y = .ref d ∧ Dp K H x (encS st) ∧ DSt P w K H d kvs ∧ Q (.bl (!(getS kvs st).isSome)) H
theorem isSome_rel {o : Option V} {o' : Option (Addr × Value)} (h : RelO o (o'.map (·.2))) : o'.isSome = o.isSome := by
  cases o <;> cases o' <;> first | rfl | exact h.elim
theorem dS_ref {K : PySem.W.Frag} {x : V} {st : Sst} (h : Dp K H x (encS st)) : ∃ a, x = .ref a := by
  unfold encS at h
  cases h
  exact ⟨_, rfl⟩
theorem op_inS (hu : X.A.units + 64 < cLine) : OpR X (compareOp .In) (rInS X.prog X.w X.K) := by
  intro pins s σ H x y v u Q I rx ry h
  obtain ⟨d, st, kvs, rfl, hx, ⟨h1, h2, xs, h3, h4⟩, q⟩ := h
  obtain ⟨a, rfl⟩ := dS_ref hx
  cases rx
  cases ry
  refine wpAny_in_heap (room_nested1 hu) (I.keyIs hx) h2 (I.dst h3 h4) ?_
  rw [isSome_rel (atKey_get h3)]
  exact ⟨.bl _, H, I.tok _, rfl, q⟩
theorem op_notInS (hu : X.A.units + 64 < cLine) : OpR X (compareOp .NotIn) (rNotInS X.prog X.w X.K) := by
  intro pins s σ H x y v u Q I rx ry h
  obtain ⟨d, st, kvs, rfl, hx, ⟨h1, h2, xs, h3, h4⟩, q⟩ := h
  obtain ⟨a, rfl⟩ := dS_ref hx
  cases rx
  cases ry
  refine notIn_keyed (knd := nestedKind X.prog X.w) (kvs := pairsH xs) (room_nested1 hu) (I.keyIs hx) h2 ⟨xs, I.dst h3 h4, rfl⟩ ?_
  rw [valueAt_pairsH, Option.isSome_map, isSome_rel (atKey_get h3)]
  exact ⟨.bl _, H, I.tok _, rfl, q⟩
/-- d[x] -/
def tSGet (P : Program) (w : World) (K : PySem.W.Frag) (td ty : TE) : TE := fun σ H Q => td σ H fun x H1 => ty σ H1 fun y H2 => ∃ d st kvs v, x = .ref d ∧ Dp K H2 y (encS st) ∧ DSt P w K H2 d kvs ∧ getS kvs st = some v ∧ Q v H2
theorem pe_sget {o i : Expr} {td ty : TE} {pos : Pos} (hu : X.A.units + 64 < cLine) (ho : PE X o td) (hi : PE X i ty) (hs : NoSl i := by exact fun _ _ => rfl) : PE X (.Subscript o i pos) (tSGet X.prog X.w X.K td ty) := by
  refine ⟨fun pins s σ H Q I h => subD_of PySem.F.slot_dict_getitem.lookup hs (thn (ho.run pins s σ H _ I h) fun u s1 ⟨x, H1, I1, rx, q1⟩ => thn (hi.run pins s1 σ H1 _ I1 q1) fun iv s2 ⟨y, H2, I2, ry, q2⟩ => ?_)⟩
  obtain ⟨d, st, kvs, v, rfl, hy, ⟨h1, h2, xs, h3, h4⟩, hg, q⟩ := q2
  obtain ⟨a, rfl⟩ := dS_ref hy
  cases rx
  cases ry
  have hm := I2.dst h3 h4
  have hq := atKey_get (st := st) h3
  rw [hg] at hq
  cases e : atKey xs (kS st) with
  | none =>
    rw [e] at hq
    exact hq.elim
  | some p =>
    rw [e] at hq
    exact ⟨hm.typeIs, wpAny_getItem_heap (room_nested1 hu) (I2.keyIs hy) hm e ⟨v, H2, I2.tok _, hq, q⟩⟩
/-- a new key put -/
def NewS (P : Program) (w : World) (K : PySem.W.Frag) (H : Hp) (d : Addr) (kvs : List (Sst × V)) (x : V) (st : Sst) (v : V) (Q : Hp → Prop) : Prop :=
  DSt P w K H d kvs ∧ Dp K H x (encS st) ∧ getS kvs st = none ∧ kvs.length < sizeLine ∧ ∀ φ, DSt P w K (upd H d (.ext φ)) d (kvs ++ [(st, v)]) → Q (upd H d (.ext φ))
theorem NewS.run {P : Program} {w : World} {K : PySem.W.Frag} {x v : V} {st : Sst} {Q : Hp → Prop} (n : NewS P w K H d kvs x st v Q) {a : Addr} (ha : x = .ref a) {r : Value} (rv : RelV v r) {xs : List (NestedKey × Addr × Value)}
    (h3 : Paired (EnR K H) kvs xs) (h4 : H d = some (.ext (rawD P w d xs))) : Q (upd H d (.ext (rawD P w d (xs ++ [(kS st, a, r)])))) := by
  obtain ⟨⟨h1, h2, _⟩, hx, hg, hl, q⟩ := n
  subst ha
  have ns : NoSeq (H d) := by
    rw [h4]
    exact ⟨fun _ z => (nomatch z), fun _ _ z => (nomatch z)⟩
  refine q _ ⟨by rw [List.length_append]; exact hl, h2, xs ++ [(kS st, a, r)], ?_, upd_same⟩
  exact paired_append (Paired.mapP h3 fun p q r => ⟨r.1, Dp.upd ns r.2.1 (noL_S _), r.2.2⟩) ⟨rfl, Dp.upd ns hx (noL_S _), rv⟩
theorem s_dictSet {E : Value → Shared → Prop} {x v : V} {u r : Value} {st : Sst} {Q : Unit → Shared → Prop} {R : Hp → Prop} (hu : X.A.units + 64 < cLine) (I : Inv X pins σ H s) (n : NewS X.prog X.w X.K H d kvs x st v R) (rx : RelV x u) (rv : RelV v r)
    (h : ∀ s' H', Inv X pins σ H' s' → R H' → Q () s') : wpAny (model X.prog X.w) X.A (dictSet d u r) Q E s := by
  obtain ⟨⟨h1, h2, xs, h3, h4⟩, hx, hg, hl, q⟩ := id n
  obtain ⟨a, rfl⟩ := dS_ref hx
  cases rx
  have hz : xs.length ≤ sizeLine := by rw [← Paired.length h3]; exact h1
  refine wpAny_dictSet_heap (hsz := hz) (room_nested hu) (I.keyIs hx) (I.dst h3 h4) fun h' hm hs => h _ _ ?_ (n.run rfl rv h3 h4)
  rw [storedH_new (getS_none h3 hg)] at hm
  have he : ∃ q, h'.get? d = some q := let ⟨q, _, _, hq, _⟩ := hm; ⟨q, hq⟩
  exact d_write I (by rw [h4]; exact True.intro) hs he (ext_ok hm)
theorem s_setItem {E : Value → Shared → Prop} {x v : V} {u r : Value} {st : Sst} {Q : Unit → Shared → Prop} {R : Hp → Prop} (hu : X.A.units + 64 < cLine) (I : Inv X pins σ H s) (n : NewS X.prog X.w X.K H d kvs x st v R) (rx : RelV x u) (rv : RelV v r)
    (h : ∀ s' H', Inv X pins σ H' s' → R H' → Q () s') : wpAny (model X.prog X.w) X.A (setItem (.ref d) u r) Q E s := by
  obtain ⟨⟨h1, h2, xs, h3, h4⟩, hx, hg, hl, q⟩ := id n
  obtain ⟨a, rfl⟩ := dS_ref hx
  cases rx
  have hz : xs.length ≤ sizeLine := by rw [← Paired.length h3]; exact h1
  refine wpAny_setItem_heap (hsz := hz) (room_nested1 hu) (I.keyIs hx) (I.dst h3 h4) fun h' hm hs => h _ _ ?_ (n.run rfl rv h3 h4)
  rw [storedH_new (getS_none h3 hg)] at hm
  have he : ∃ q, h'.get? d = some q := let ⟨q, _, _, hq, _⟩ := hm; ⟨q, hq⟩
  exact d_write I (by rw [h4]; exact True.intro) hs he (ext_ok hm)
def sSPut (P : Program) (w : World) (K : PySem.W.Frag) (td ty tv : TE) : TS := fun D σ H => tv σ H fun v H1 => td σ H1 fun x H2 => ty σ H2 fun y H3 => ∃ d st kvs, x = .ref d ∧ NewS P w K H3 d kvs y st v fun H4 => D.nx σ H4
theorem ps_sput {o i value : Expr} {td ty tv : TE} {pos pos' : Pos} (hu : X.A.units + 64 < cLine) (ho : PE X o td) (hi : PE X i ty) (hv : PE X value tv) (hs : swapsWith value (some (.Subscript o i pos')) pos.line X.env = pure false := by rfl) :
    PS X (.Assign [.Subscript o i pos'] value pos) (sSPut X.prog X.w X.K td ty tv) := by
  refine ⟨fun pins s σ H D I h => wpAny_Assign_Subscript (thn (hv.run pins s σ H _ I h) fun r s1 ⟨v, H1, I1, rv, q1⟩ => thn (ho.run pins s1 σ H1 _ I1 q1) fun u s2 ⟨x, H2, I2, rx, q2⟩ => thn (hi.run pins s2 σ H2 _ I2 q2) fun iv s3 ⟨y, H3, I3, ry, q3⟩ => ?_) hs⟩
  obtain ⟨d, st, kvs, rfl, n⟩ := q3
  obtain rfl : u = Value.ref d := rx
  exact s_setItem hu I3 n ry rv fun s4 H4 I4 q4 => ⟨σ, H4, I4, q4⟩
/-- len(d) -/
def rLenS (P : Program) (w : World) (K : PySem.W.Frag) : List V → Hp → VK → Prop := fun xs H Q => ∃ d kvs, xs = [.ref d] ∧ DSt P w K H d kvs ∧ Q (.int kvs.length) H
theorem call_lenS : CallR X (.builtin "len") (rLenS X.prog X.w X.K) := by
  intro pins s σ H vs us Q I r h
  obtain ⟨d, kvs, rfl, ⟨h1, h2, xs, h3, h4⟩, q⟩ := h
  rw [Vals.ref1 r]
  have hm := I.dst h3 h4
  have hk : s.heap.DictKeyed (nestedKind X.prog X.w) d (pairsH xs) := ⟨xs, hm, rfl⟩
  have hl : (pairsH xs).length = kvs.length := by rw [pairsH_length, ← Paired.length h3]
  have hz : (sizeLine : Nat) = 16777216 := sizeLine_eq
  refine PyProof.Rows.call_len_slot (n := (pairsH xs).length) hm.typeIs PySem.F.slot_dict_len (fun Q' hq => len_keyed h2 hk hq) (by omega) (by omega) ?_
  rw [hl]
  exact ⟨.int _, H, I.tok _, ⟨_, rfl⟩, q⟩
end
end L2
set_option maxHeartbeats 4000000
/-! DE: list(d), dict(pairs), comprehensions of dicts of states. -/
namespace L2
open PySem PySem.Spec PyProof.Rows Pm
section
variable {X : Cx}
def keysD (kvs : List (Sst × V)) : List PyData := kvs.map fun q => encS q.1
def rListS (P : Program) (w : World) (K : PySem.W.Frag) : List V → Hp → VK → Prop := fun xs H Q => ∃ d kvs, xs = [.ref d] ∧ DSt P w K H d kvs ∧ ∀ p vs, H p = none → DpAll K H vs (keysD kvs) → Q (.ref p) (upd H p (.lst vs))
theorem keys_dp {K : PySem.W.Frag} {H : Hp} {kvs : List (Sst × V)} {ks : List (NestedKey × Addr × Value)} (r : Paired (EnR K H) kvs ks) : DpAll K H (ks.map fun x => V.ref x.2.1) (keysD kvs) := by
  induction r with
  | nil => exact .nil
  | cons h t ih => exact .cons h.2.1 ih
theorem vals_keys (ks : List (NestedKey × Addr × Value)) : Vals (ks.map fun x => V.ref x.2.1) (ks.map fun x => Value.ref x.2.1) := by
  induction ks with
  | nil => exact .nil
  | cons a r ih => exact .cons rfl ih
theorem call_listS (hc : X.calm = true) : CallR X (.type "list") (rListS X.prog X.w X.K) := by
  intro pins s σ H xs us Q I r h
  obtain ⟨d, kvs, rfl, ⟨hz, hs, ks, pr, hd⟩, q⟩ := h
  rw [Vals.ref1 r]
  obtain ⟨⟨o, es, ep, ho, hx, hdt, he, hn⟩, _, _⟩ := I.hok d _ hd
  have n1 : es.size = ks.length := size_of_entries he
  have n2 := Paired.length pr
  refine PySem.W.kdl_call (kdl_raw hs hx hdt) (I.ok.hd hc) ho (by omega) fun h' tk acc cap keep new items => ?_
  have eq1 : acc.toList = ks.map fun x => Value.ref x.2.1 := by
    refine List.ext_getElem? fun j => ?_
    have hlen : acc.toList.length = ks.length := by rw [Array.length_toList, items.1, n1]
    rw [List.getElem?_map]
    by_cases hj : j < ks.length
    · have hv : acc.toList[j]? = some (acc.toList[j]'(by omega)) := List.getElem?_eq_getElem (by omega)
      obtain ⟨en, hen, hval⟩ := items.2 j _ (by rw [← Array.getElem?_toList]; exact hv)
      have at1 := entry_at he j
      rw [hen, List.getElem?_eq_getElem hj] at at1
      have at2 : en = entryOfKey (nestedKind X.prog X.w) ks[j] := Option.some.inj at1
      rw [hv, hval, at2, List.getElem?_eq_getElem hj]
      rfl
    · rw [List.getElem?_eq_none (by omega), List.getElem?_eq_none (by omega)]
      rfl
  have hz2 : (ks.map fun x => V.ref x.2.1).length ≤ sizeLine := by rw [List.length_map]; omega
  refine ⟨.ref s.heap.objs.size, _, I.laid (t' := tk) (o := .lst (ks.map fun x => V.ref x.2.1)) keep (Nat.le_refl _) ?_, rfl, q _ _ (I.hok.fresh (Nat.le_refl _)) (keys_dp pr)⟩
  refine ⟨hz2, acc.toList, cap, ?_, by rw [Array.toArray_toList]; exact new⟩
  rw [eq1]
  exact vals_keys ks

/-! ### dict(pairs) -/
def pairD (st : Sst) : PyData := .tuple [encS st, .bool true]
def PairOk (K : PySem.W.Frag) (H : Hp) (z : Addr × Addr) (st : Sst) : Prop := SqT K H z.1 [.ref z.2, .bl true] ∧ Dp K H (.ref z.2) (encS st)
theorem prs_of {K : PySem.W.Frag} {H : Hp} : ∀ {sts : List Sst} {vs : List V}, DpAll K H vs (sts.map pairD) → ∃ zs : List (Addr × Addr), vs = zs.map (fun z => V.ref z.1) ∧ Paired (PairOk K H) zs sts
  | [], _, .nil => ⟨[], rfl, .nil⟩
  | st :: sts, _, .cons h r => by
    obtain ⟨zs, rfl, h2⟩ := prs_of r
    cases h with
    | tup hx dx =>
      cases dx with
      | cons d1 d2 => cases d2 with
        | cons d2 d3 =>
          cases d3
          obtain ⟨a, rfl⟩ := dS_ref d1
          cases d2
          exact ⟨(_, a) :: zs, rfl, .cons ⟨hx, d1⟩ h2⟩
theorem storedAll_new (ks : List (NestedKey × Addr × Value)) (h : (ks.map (·.1)).Nodup) : storedAllH [] ks = ks := by
  have key : ∀ (acc r : List (NestedKey × Addr × Value)), ((acc ++ r).map (·.1)).Nodup → storedAllH acc r = acc ++ r := by
    intro acc r
    induction r generalizing acc with
    | nil => intro _; simp [storedAllH]
    | cons p r ih =>
      intro hn
      have e : atKey acc p.1 = none := by
        cases q : atKey acc p.1 with
        | none => rfl
        | some z =>
          unfold atKey at q
          obtain ⟨y, hy, _⟩ := Option.map_eq_some_iff.mp q
          have h1 := List.find?_some hy
          have h2 := List.mem_of_find?_eq_some hy
          rw [List.map_append, List.nodup_append] at hn
          exact absurd (of_decide_eq_true h1) (hn.2.2 _ (List.mem_map.mpr ⟨y, h2, rfl⟩) _ (by simp))
      show storedAllH (storedH acc p.1 p.2.1 p.2.2) r = _
      rw [storedH_new e, ih _ (by rw [List.append_assoc]; exact hn), List.append_assoc]
      rfl
  exact key [] ks (by simpa using h)
def rDictPS (P : Program) (w : World) (K : PySem.W.Frag) : List V → Hp → VK → Prop := fun xs H Q => ∃ (x : V) (sts : List Sst), xs = [x] ∧ Dp K H x (.list (sts.map pairD)) ∧ sts.Nodup ∧ sts.length ≤ zBig ∧ ∀ d φ, H d = none → DSt P w K (upd H d (.ext φ)) d (sts.map fun st => (st, V.bl true)) → Q (.ref d) (upd H d (.ext φ))
theorem pairedAt {α β : Type} {R : α → β → Prop} : ∀ {as : List α} {bs : List β} {j : Nat} {b : β}, Paired R as bs → bs[j]? = some b → ∃ a, as[j]? = some a ∧ R a b
  | _, _, _, _, .nil, h => by simp at h
  | _, _, 0, _, .cons r _, h => by simp at h; subst h; exact ⟨_, rfl, r⟩
  | _, _, j + 1, _, .cons _ t, h => by
    obtain ⟨a, h1, h2⟩ := pairedAt (j := j) t (by simpa using h)
    exact ⟨a, by simpa using h1, h2⟩
theorem call_dictPS (hc : X.calm = true) (hu : X.A.units + 64 < cLine) : CallR X (.type "dict") (rDictPS X.prog X.w X.K) := by
  intro pins s σ H xs us Q I r h
  obtain ⟨x, sts, rfl, hx, hn, hz, q⟩ := h
  cases hx with
  | lst hl dl =>
    rename_i l vs
    obtain ⟨zs, rfl, pz⟩ := prs_of dl
    rw [Vals.ref1 r]
    obtain ⟨its, rv, hp, hzl⟩ := I.list hl
    have len1 : zs.length = sts.length := Paired.length pz
    have len2 : its.length = zs.length := by rw [← rv.length, List.length_map]
    -- the entries
    let ks : List (NestedKey × Addr × Value) := (zs.zip sts).map fun p => (kS p.2, p.1.2, Value.bool true)
    have lks : ks.length = sts.length := by simp [ks, len1]
    have kget : ∀ (j : Nat) (z : Addr × Addr) (st : Sst), zs[j]? = some z → sts[j]? = some st → ks[j]? = some (kS st, z.2, Value.bool true) := fun j z st h1 h2 => by
      have e : (zs.zip sts)[j]? = some (z, st) := List.getElem?_zip_eq_some.mpr ⟨h1, h2⟩
      simp only [ks, List.getElem?_map, e, Option.map_some]
    have kfst : ks.map (·.1) = sts.map kS := by
      apply List.ext_getElem?
      intro j
      rw [List.getElem?_map]
      cases e : sts[j]? with
      | none =>
        have e1 := List.getElem?_eq_none_iff.mp e
        rw [List.getElem?_eq_none (show ks.length ≤ j by rw [lks]; exact e1), List.getElem?_map, e]
        rfl
      | some st =>
        obtain ⟨z, h1, _⟩ := pairedAt pz e
        rw [kget j z st h1 e, List.getElem?_map, e]
        rfl
    have knd : (ks.map (·.1)).Nodup := by
      rw [kfst]
      exact List.Pairwise.map _ (fun a b hab e => hab (kS_inj e)) hn
    have kis : ∀ x ∈ ks, (nestedKind X.prog X.w).is s.heap x.1 x.2.1 := fun x hx => by
      obtain ⟨j, hj, rfl⟩ := List.mem_iff_getElem.mp hx
      have hjs : j < sts.length := by omega
      obtain ⟨z, h1, h2, h3⟩ := pairedAt pz (List.getElem?_eq_getElem hjs)
      have e := kget j z sts[j] h1 (List.getElem?_eq_getElem hjs)
      rw [List.getElem?_eq_getElem hj] at e
      rw [Option.some.inj e]
      exact I.keyIs h3
    let ps : List (Value × Value) := zs.map fun z => (Value.ref z.2, Value.bool true)
    let Ts : Nat → Addr := fun j => ((zs[j]?).map (·.1)).getD 0
    have lps : ps.length = sts.length := by simp [ps, len1]
    have okP : PlainSeq "list" s.heap l its.toArray ∧ PairItems s.heap its.toArray Ts ps := by
      refine ⟨?_, by simp [ps, len2], fun j k v hj => ?_⟩
      · obtain ⟨o, n, h1, h2, h3, h4⟩ := hp
        exact ⟨o, n, h1, h2, h3, h4⟩
      · simp only [ps, List.getElem?_map] at hj
        obtain ⟨z, hz1, hz2⟩ := Option.map_eq_some_iff.mp hj
        cases hz2
        have hjl : j < sts.length := by
          have := (List.getElem?_eq_some_iff.mp hz1).1
          omega
        obtain ⟨z', h1, h2, h3⟩ := pairedAt pz (List.getElem?_eq_getElem hjl)
        rw [hz1] at h1
        cases h1
        have hT : Ts j = z.1 := by simp [Ts, hz1]
        obtain ⟨u, hu1, hu2⟩ := rv.get (i := j) (x := V.ref z.1) (by rw [List.getElem?_map, hz1]; rfl)
        cases hu2
        obtain ⟨its2, rv2, ht, _⟩ := I.tuple h2
        rw [hT]
        refine ⟨by simpa using hu1, ?_⟩
        cases rv2 with
        | cons r1 r2 => cases r2 with
          | cons r2 r3 =>
            cases r3
            cases r1
            cases r2
            exact .inl ht
    refine call_dict_pairsH (knd := nestedKind X.prog X.w) (ps := ks) (PairArg.list l its.toArray Ts ps) (I.ok.hd hc) (by show X.A.units + 1 + 1 + 8 < cLine; omega) okP ⟨by omega, fun i key v hr => ?_⟩ (fun h' hk x hx => ?_) (by rw [lps]; exact zBig_le hz) fun h' tk hd' hk => ?_
    · have hr : ps[i]? = some (key, v) := hr
      simp only [ps, List.getElem?_map] at hr
      obtain ⟨z, hz1, hz2⟩ := Option.map_eq_some_iff.mp hr
      cases hz2
      have hjl : i < sts.length := by
        have := (List.getElem?_eq_some_iff.mp hz1).1
        omega
      exact ⟨kS sts[i], z.2, kget i z _ hz1 (List.getElem?_eq_getElem hjl), rfl⟩
    · obtain ⟨h1, h2⟩ := kis x hx
      refine ⟨NestedIs.at (fun b o ws n hb hd => hk b o (Nat.ne_of_lt (Heap.lt_size hb)) (by simp) hb) _ _ h1, h2⟩
    · rw [storedAll_new ks knd] at hd'
      have hfr := I.hok.fresh (Nat.le_refl s.heap.objs.size)
      have hkp : ∀ b o, s.heap.get? b = some o → h'.get? b = some o := fun b o e => hk b o (by simp) e
      refine ⟨.ref s.heap.objs.size, _, I.laid (t' := tk) (o := .ext (rawD X.prog X.w s.heap.objs.size ks)) hkp (Nat.le_refl _) (ext_ok hd'), rfl, q _ _ hfr ⟨by rw [List.length_map]; exact zBig_le hz, ?_, ks, ?_, upd_same⟩⟩
      · have := I.big
        exact beq_eq_false_iff_ne.mpr (Nat.ne_of_gt this)
      · have sn : Same H (upd H s.heap.objs.size (.ext (rawD X.prog X.w s.heap.objs.size ks))) := Same.new hfr
        have main : ∀ {zs : List (Addr × Addr)} {sts : List Sst}, Paired (PairOk X.K H) zs sts → Paired (EnR X.K (upd H s.heap.objs.size (.ext (rawD X.prog X.w s.heap.objs.size ks)))) (sts.map fun st => (st, V.bl true)) ((zs.zip sts).map fun p => (kS p.2, p.1.2, Value.bool true)) := by
          intro zs sts r
          induction r with
          | nil => exact .nil
          | cons h t ih => exact .cons ⟨rfl, h.2.same sn, rfl⟩ ih
        exact main pz
end
end L2
set_option maxHeartbeats 4000000
/-! DF: comprehensions that make a dict of states. -/
namespace L2
open PySem PySem.Spec PyProof.Rows Pm
section
variable {X : Cx}
/-- {k: v for target in iter}, the keys states not met before -/
def tDcS (P : Program) (w : World) (K : PySem.W.Frag) (wi : TI) (g : TG) (tk tv : TE) (vs : List Nat) : TE := fun σ H Q => wi σ H fun J H1 => ∀ D, H1 D = none → (D == sysModules) = false → ∃ W : Nat → Nat → Hp → Prop, (∃ m, W 0 m (upd H1 D (.ext (rawD P w D [])))) ∧ ∀ i m H, W i m H →
  (J.stop i H ∧ Q (.ref D) H) ∨ (J.go i H ∧ ∃ Nx : Hp → Prop, (∀ H', Nx H' → ∃ m', m' < m ∧ W (i + 1) m' H') ∧ ∀ x H', J.yld i H x H' → g x (wipe σ vs) H' fun σ2 H2 => wipe σ2 vs = wipe σ vs ∧
    tk σ2 H2 fun y H4 => tv σ2 H4 fun z H5 => ∃ kvs st, NewS P w K H5 D kvs y st z Nx)
theorem ext_new {P : Program} {w : World} {H : Hp} (h : Heap) : ObjOk P w H (h.push { cls := .type "dict", data := .dict #[] }) h.objs.size (.ext (rawD P w h.objs.size [])) := ext_ok (Heap.DictOfH.new h)
theorem pe_dcS {kx vx tg iter : Expr} {scope : Scope} {own : List (Str × Nat)} {pos : Pos} {wi : TI} {g : TG} {tk tv : TE} (hu : X.A.units + 64 < cLine) (hN : X.N.Nodup) (hi : PI X tg iter wi) (ok : BlkOk X.N X.env.scope scope own)
    (hg : ∀ (s : Shared) (H : Hp) (C : Addr) (cl : List (Str × Addr)) (fp : List Addr), PG (X.blk s H scope (compEnvC scope cl C X.env) fp) tg g)
    (hk : ∀ (s : Shared) (H : Hp) (C : Addr) (cl : List (Str × Addr)) (fp : List Addr), PE (X.blk s H scope (compEnvC scope cl C X.env) fp) kx tk)
    (he : ∀ (s : Shared) (H : Hp) (C : Addr) (cl : List (Str × Addr)) (fp : List Addr), PE (X.blk s H scope (compEnvC scope cl C X.env) fp) vx tv) (hc : X.calm = true := by rfl) (hs : ∀ x, foldedSetIterable iter X.env x = pure x := by intro _; rfl) :
    PE X (.DictComp kx vx [⟨tg, iter, [], 0⟩] scope pos) (tDcS X.prog X.w X.K wi g tk tv (own.map (·.2))) := by
  refine ⟨fun pins s0 σ H0 Q I0 h => ?_⟩
  rw [arm_eval_DictComp]
  have captured : ∀ y ∈ scope.names, y.2 = .free → ∃ c, X.env.cells.lookup y.1 = some c := fun y hy e => (ok.free y hy e).elim (fun k => I0.ok.has _ (.inl k)) fun k => I0.ok.has _ (.inr k)
  refine wpAny_comprehension_free (use := none) rfl hs (closure_ok captured) ok.kind (fun y hy e => by rw [ok.uniq y hy, e]) (thn (hi.run pins s0 σ H0 _ I0 h) fun seq s1 q1 => thn q1 fun itr sA qA => ?_)
  obtain ⟨it, fp, tn, J, HA, rfl, IA, T, stA, fA, q⟩ := qA
  refine wpAny_newObj_type (newEnv_comp ?_)
  -- the dict that is made stands at sA.heap.objs.size
  have dFresh : HA sA.heap.objs.size = none := IA.hok.fresh (Nat.le_refl _)
  have dName : (sA.heap.objs.size == sysModules) = false := beq_eq_false_iff_ne.mpr (Nat.ne_of_gt IA.big)
  obtain ⟨W, ⟨m0, w0⟩, turn⟩ := q _ dFresh dName
  generalize dAt : sA.heap.objs.size = D at dFresh dName w0 turn
  have young : ∀ b ∈ fp, b < sA.heap.objs.size := fun b hb => by
    obtain ⟨ob, e, _⟩ := T.obj _ _ stA b hb
    exact Heap.lt_size e
  generalize sBdef : ({ sA with heap := sA.heap.push { cls := .type "dict", data := .dict #[] } } : Shared) = sB
  have heapB : sB.heap = sA.heap.push { cls := .type "dict", data := .dict #[] } := by rw [← sBdef]
  have IB : Inv X pins σ (upd HA D (.ext (rawD X.prog X.w D []))) sB := by
    rw [← sBdef, ← dAt]
    exact IA.laid (t' := sA.toks) (fun b ob e => Heap.get?_push_of_some _ e) (Nat.le_refl _) (ext_new sA.heap)
  have fB : ∀ b ∈ fp, FpOk X pins (upd HA D (.ext (rawD X.prog X.w D []))) b ∧ b < sB.heap.objs.size := fun b hb => by
    have lt := young b hb
    refine ⟨⟨?_, (fA b hb).2⟩, by rw [heapB, Heap.size_push]; exact Nat.lt_succ_of_lt lt⟩
    rw [upd_ne (by rw [← dAt]; exact Nat.ne_of_lt lt)]
    exact (fA b hb).1
  have stB : tn 0 sB.heap := T.keep _ _ _ stA fun b _ ob e => by rw [heapB]; exact Heap.get?_push_of_some _ e
  generalize HBdef : upd HA D (.ext (rawD X.prog X.w D [])) = HB at IB fB w0
  have IC := block_start IB ok hN fB
  have fnil : ∀ b ∈ fp, HB b = none := fun b hb => (fB b hb).1.1
  show codeAny _ _ (.compStart (.DictComp kx vx [⟨tg, iter, [], 0⟩] scope pos) 0 (.ref it) (.ref D) (compEnvC scope (cellsFrom (sB.heap.objs.size + 1) scope.names (cloFrom X.env.cells scope.names [])) sB.heap.objs.size X.env))
    (compPost (model X.prog X.w) X.A X.xe none (EP X pins σ Q) (.ref D) sB.heap.objs.size) { sB with heap := pushCells (sB.heap.push { cls := .type "dict", data := .dict #[] }) scope.names }
  generalize cellsFrom (sB.heap.objs.size + 1) scope.names (cloFrom X.env.cells scope.names []) = cl at IC ⊢
  have pg := hg sB HB sB.heap.objs.size cl fp
  have pk := hk sB HB sB.heap.objs.size cl fp
  have pv := he sB HB sB.heap.objs.size cl fp
  generalize cedef : compEnvC scope cl sB.heap.objs.size X.env = ce at IC pg pk pv ⊢
  have ceL : ce.locals = sB.heap.objs.size := by rw [← cedef]; rfl
  generalize sCdef : ({ sB with heap := pushCells (sB.heap.push { cls := .type "dict", data := .dict #[] }) scope.names } : Shared) = sC at IC ⊢
  have stC : tn 0 sC.heap := T.keep _ _ _ stB fun b _ ob e => by rw [← sCdef]; exact pushCells_keeps _ _ _ _ (Heap.get?_push_of_some _ e)
  have own_fp : ∀ {σ' : St} {H' : Hp} {s' : Shared}, Inv (X.blk sB HB scope ce fp) [] σ' H' s' → (∀ b ∈ fp, H' b = none) → ∀ b ∈ fp, FpOk (X.blk sB HB scope ce fp) [] H' b := fun {σ' H' s'} I' hn b hb =>
    ⟨hn b hb, (I'.ok.exf b hb).1, I'.ok.exfs b hb, .inl hb, fun x c e => (I'.ok.exf b hb).2 x c e, fun p hp => absurd (show p ∈ ([] : List (Addr × Obj)) ++ [] from hp) (by simp)⟩
  have loop : codeAny (model X.prog X.w) X.A (.compLoop (.DictComp kx vx [⟨tg, iter, [], 0⟩] scope pos) 0 (.ref it) (.ref D) ce) (compPost (model X.prog X.w) X.A X.xe none (EP X pins σ Q) (.ref D) sB.heap.objs.size) sC := by
    refine compLoop_anyD (fun n s' => ∃ i H', Inv (X.blk sB HB scope ce fp) [] (wipe σ (own.map (·.2))) H' s' ∧ tn i s'.heap ∧ (∀ b ∈ fp, H' b = none) ∧ W i n H') ?_ m0 ⟨0, HB, IC, stC, fnil, w0⟩
    rintro n sE ⟨i, HE, IE, stE, nE, wE⟩
    rcases turn i n HE wE with ⟨stop, fin⟩ | ⟨go, Nx, hNx, step⟩
    · have over := T.done (X.blk sB HB scope ce fp) rfl rfl rfl hc i [] sE _ HE (fun _ _ => False) IE (own_fp IE nE) stE stop
      refine thnF over fun r sF ⟨er, IF⟩ => ?_
      subst er
      have back : Inv X pins σ HE sF := IB.call' (ch := fp) IF.os IF.base IF.hok IF.bare fun b hb => ⟨(fB b hb).1.2.2.2.1, (fB b hb).1.2.1, (fB b hb).1.2.2.2.2.1, (fB b hb).1.2.2.2.2.2⟩
      have nC : HE sB.heap.objs.size = none := by
        have z : HE ce.locals = none := IF.free
        rw [ceL] at z
        exact z
      obtain ⟨m, hm, _⟩ := IF.loc
      have hm : sF.heap.Ns ce.locals m := hm
      rw [ceL] at hm
      obtain ⟨f0, f1, f2, f3, f4, f5⟩ := IB.fpOk (H' := HE) (Nat.le_refl _) nC
      exact ⟨m, hm, fun h'' sb => ⟨.ref D, HE, back.turned (t' := sF.toks) (fun b ob hb e => (sb.2 b hb).trans e) f0 f1 f3 f4 f5, rfl, fin⟩⟩
    · have next := T.item (X.blk sB HB scope ce fp) rfl rfl rfl hc i [] sE _ HE (fun _ _ => False) IE (own_fp IE nE) stE go
      refine thnF next fun r sF ⟨u, er, hF⟩ => ?_
      subst er
      refine thnF hF fun _ sG ⟨x, HG, IG, rG, yG, stG, nG⟩ => ?_
      have IGp := IG.pinned (own_fp IG nG) (T.obj _ _ stG)
      refine thnF (pg.run _ sG _ HG x u _ IGp rG (step x HG yG)) fun _ sK ⟨σK, HK, IK, wipeK, qK⟩ => ?_
      refine thnF ((pts_nil (X := X.blk sB HB scope ce fp)).run _ sK σK HK (fun b H' => b = true ∧ H' = HK) IK ⟨rfl, rfl⟩) fun b sK2 ⟨HK2, IK2, eb, eH⟩ => ?_
      subst eb
      subst eH
      simp only [if_true]
      have IK := IK2
      refine thnF (pk.run _ sK2 σK HK2 _ IK qK) fun kv sL ⟨yk, HL, IL, rk, qL⟩ => ?_
      refine thnF (pv.run _ sL σK HL _ IL qL) fun vv sM ⟨yv, HM, IM, rv, kvs, st, new⟩ => ?_
      refine s_dictSet (X := X.blk sB HB scope ce fp) hu IM new rk rv fun sN HN IN nx => ?_
      obtain ⟨m', lt, w'⟩ := hNx HN nx
      have pinned : ∀ b ∈ fp, ∀ ob, sG.heap.get? b = some ob → sN.heap.get? b = some ob ∧ HN b = none := fun b hb ob e =>
        let z := IN.pin (b, ob) (List.mem_append_right _ (List.mem_append_right _ (mem_pinsAt hb e)))
        ⟨z.1, z.2.1⟩
      have len : (wipe σ (own.map (·.2))).length = σK.length := by rw [← wipeK, wipe_length]
      refine ⟨m', lt, i + 1, HN, (IN.unpinned (pins := [])).weak len (fun j v e => ?_), T.keep _ _ _ stG fun b hb ob e => (pinned b hb ob e).1, fun b hb => ?_, w'⟩
      · rw [← wipeK] at e
        exact (wipe_some e).1
      · obtain ⟨ob, e, _⟩ := T.obj _ _ stG b hb
        exact (pinned b hb ob e).2
  exact codeAny_compStart_dict loop (T.self X.A 0 _ _ _ stC loop)
end
end L2
set_option maxHeartbeats 4000000
/-! Bfs: the search, in plain Lean. -/
namespace Pm

structure Ent where
  st : Sst
  par : Option (Sst × Int)
  lv : Int
  pth : List Int
structure Sr where
  ents : List Ent
  runs : List (Rs × Int × List Int)
  bz : Int
def findE (es : List Ent) (s : Sst) : Option Ent := es.find? fun e => decide (e.st = s)
def hasR (rs : List (Rs × Int × List Int)) (r : Rs) : Bool := rs.any fun q => decide (q.1 = r)
/-- one inflow of a state -/
def one (w : Wl) (e : Ent) (i : Int) (T : Sr × List Sst) : Sr × List Sst :=
  let b := if busy w e.st > T.1.bz then busy w e.st else T.1.bz
  match beatS w e.st i with
  | .st t => if (findE T.1.ents t).isSome then (⟨T.1.ents, T.1.runs, b⟩, T.2) else (⟨T.1.ents ++ [⟨t, some (e.st, i), e.lv, e.pth ++ [i]⟩], T.1.runs, b⟩, T.2 ++ [t])
  | r => if hasR T.1.runs r then (⟨T.1.ents, T.1.runs, b⟩, T.2) else (⟨T.1.ents, T.1.runs ++ [(r, e.lv, e.pth ++ [i])], b⟩, T.2)
def behindM (w : Wl) (e : Ent) (is : List Int) (T : Sr × List Sst) : Sr × List Sst := is.foldl (fun T i => one w e i T) T
/-- a layer gone through: the states by their entries -/
def layM (w : Wl) (is : List Int) : List Sst → Sr × List Sst → Sr × List Sst
  | [], T => T
  | s :: r, T => match findE T.1.ents s with
    | some e => layM w is r (behindM w e is T)
    | none => layM w is r T
def stepM (c : Cl) (T : Sr × List Sst) : Sr × List Sst := layM c.w (inf c.lo c.hi) T.2 (T.1, [])
def beg0 (c : Cl) (n : Option Int) : Sr × List Sst := (⟨(inf c.frm c.to).map fun lv => ⟨begS c.w n lv, none, lv, []⟩, [], 0⟩, (inf c.frm c.to).map fun lv => begS c.w n lv)
def srN (c : Cl) (n : Option Int) : Nat → Sr × List Sst
  | 0 => beg0 c n
  | k + 1 => stepM c (srN c n k)

/-! ### what stays -/
theorem one_ents (w : Wl) (e : Ent) (i : Int) (T : Sr × List Sst) : ∃ more, (one w e i T).1.ents = T.1.ents ++ more ∧ (one w e i T).2 = T.2 ++ more.map (·.st) ∧ ∀ x ∈ more, x.par = some (e.st, i) ∧ x.lv = e.lv ∧ x.pth = e.pth ++ [i] ∧ beatS w e.st i = .st x.st ∧ findE T.1.ents x.st = none := by
  unfold one
  cases h : beatS w e.st i with
  | over => refine ⟨[], ?_⟩; simp only; split <;> simp
  | dry => refine ⟨[], ?_⟩; simp only; split <;> simp
  | st t =>
    simp only
    split
    · exact ⟨[], by simp⟩
    · rename_i hn
      refine ⟨[⟨t, some (e.st, i), e.lv, e.pth ++ [i]⟩], by simp, by simp, ?_⟩
      intro x hx
      rw [List.mem_singleton] at hx
      subst hx
      exact ⟨rfl, rfl, rfl, rfl, by simpa using hn⟩
theorem one_runs (w : Wl) (e : Ent) (i : Int) (T : Sr × List Sst) : ∃ more, (one w e i T).1.runs = T.1.runs ++ more ∧ ∀ x ∈ more, x.2.1 = e.lv ∧ x.2.2 = e.pth ++ [i] ∧ beatS w e.st i = x.1 ∧ isWord x.1 = true := by
  unfold one
  cases h : beatS w e.st i with
  | over =>
    simp only
    split
    · exact ⟨[], by simp⟩
    · exact ⟨[(.over, e.lv, e.pth ++ [i])], by simp, by simp [isWord]⟩
  | dry =>
    simp only
    split
    · exact ⟨[], by simp⟩
    · exact ⟨[(.dry, e.lv, e.pth ++ [i])], by simp, by simp [isWord]⟩
  | st t => simp only; split <;> exact ⟨[], by simp⟩
theorem one_bz (w : Wl) (e : Ent) (i : Int) (T : Sr × List Sst) : T.1.bz ≤ (one w e i T).1.bz ∧ busy w e.st ≤ (one w e i T).1.bz := by
  have hb : (one w e i T).1.bz = if busy w e.st > T.1.bz then busy w e.st else T.1.bz := by
    unfold one
    cases beatS w e.st i <;> simp only <;> split <;> rfl
  rw [hb]
  split <;> omega
theorem findE_append {es more : List Ent} {s : Sst} {e : Ent} (h : findE es s = some e) : findE (es ++ more) s = some e := by
  unfold findE at h ⊢
  rw [List.find?_append, h]
  rfl
theorem findE_st {es : List Ent} {s : Sst} {e : Ent} (h : findE es s = some e) : e.st = s ∧ e ∈ es := by
  unfold findE at h
  exact ⟨of_decide_eq_true (List.find?_some (p := fun (x : Ent) => decide (x.st = s)) h), List.mem_of_find?_eq_some h⟩
theorem findE_none {es : List Ent} {s : Sst} : findE es s = none ↔ ∀ e ∈ es, e.st ≠ s := by
  unfold findE
  rw [List.find?_eq_none]
  simp
theorem findE_isSome {es : List Ent} {s : Sst} : (findE es s).isSome = true ↔ ∃ e ∈ es, e.st = s := by
  constructor
  · intro h
    obtain ⟨e, he⟩ := Option.isSome_iff_exists.mp h
    obtain ⟨h1, h2⟩ := findE_st he
    exact ⟨e, h2, h1⟩
  · rintro ⟨e, h1, h2⟩
    cases q : findE es s with
    | some x => rfl
    | none => exact absurd h2 (findE_none.mp q e h1)

/-- an invariant of single steps holds of all -/
theorem behindM_inv {w : Wl} {e : Ent} {Pr : Sr × List Sst → Prop} : ∀ (is : List Int) (T : Sr × List Sst), Pr T → (∀ i ∈ is, ∀ T, Pr T → Pr (one w e i T)) → Pr (behindM w e is T)
  | [], T, h, _ => h
  | i :: is, T, h, hs => behindM_inv is _ (hs i List.mem_cons_self T h) fun j hj => hs j (List.mem_cons_of_mem _ hj)
theorem layM_inv {w : Wl} {is : List Int} {Pr : Sr × List Sst → Prop} : ∀ (l : List Sst) (T : Sr × List Sst), Pr T → (∀ s ∈ l, ∀ e T, findE T.1.ents s = some e → Pr T → ∀ i ∈ is, ∀ T2, findE T2.1.ents s = some e → Pr T2 → Pr (one w e i T2)) → Pr (layM w is l T)
  | [], T, h, _ => h
  | s :: r, T, h, hs => by
    unfold layM
    cases q : findE T.1.ents s with
    | none => exact layM_inv r T h fun x hx => hs x (List.mem_cons_of_mem _ hx)
    | some e =>
      refine layM_inv r _ ?_ fun x hx => hs x (List.mem_cons_of_mem _ hx)
      have := behindM_inv (w := w) (e := e) (Pr := fun T2 => findE T2.1.ents s = some e ∧ Pr T2) is T ⟨q, h⟩ fun i hi T2 ⟨h1, h2⟩ => by
        obtain ⟨more, m1, _⟩ := one_ents w e i T2
        refine ⟨?_, hs s List.mem_cons_self e T q h i hi T2 h1 h2⟩
        rw [m1]
        exact findE_append h1
      exact this.2
theorem behindM_grow {w : Wl} {e : Ent} (is : List Int) (T : Sr × List Sst) : (∃ more, (behindM w e is T).1.ents = T.1.ents ++ more ∧ (behindM w e is T).2 = T.2 ++ more.map (·.st)) ∧ (∃ more, (behindM w e is T).1.runs = T.1.runs ++ more) ∧ T.1.bz ≤ (behindM w e is T).1.bz := by
  refine behindM_inv (w := w) (e := e) (Pr := fun T2 => (∃ more, T2.1.ents = T.1.ents ++ more ∧ T2.2 = T.2 ++ more.map (·.st)) ∧ (∃ more, T2.1.runs = T.1.runs ++ more) ∧ T.1.bz ≤ T2.1.bz) is T ⟨⟨[], by simp, by simp⟩, ⟨[], by simp⟩, Int.le_refl _⟩ fun i hi T2 h => ?_
  obtain ⟨⟨m1, a1, a2⟩, ⟨m2, b1⟩, c1⟩ := h
  obtain ⟨m3, d1, d2, _⟩ := one_ents w e i T2
  obtain ⟨m4, f1, _⟩ := one_runs w e i T2
  have := (one_bz w e i T2).1
  exact ⟨⟨m1 ++ m3, by rw [d1, a1, List.append_assoc], by rw [d2, a2, List.append_assoc, List.map_append]⟩, ⟨m2 ++ m4, by rw [f1, b1, List.append_assoc]⟩, by omega⟩
theorem layM_grow {w : Wl} {is : List Int} (l : List Sst) (T : Sr × List Sst) : (∃ more, (layM w is l T).1.ents = T.1.ents ++ more ∧ (layM w is l T).2 = T.2 ++ more.map (·.st)) ∧ (∃ more, (layM w is l T).1.runs = T.1.runs ++ more) ∧ T.1.bz ≤ (layM w is l T).1.bz := by
  refine layM_inv (w := w) (is := is) (Pr := fun T2 => (∃ more, T2.1.ents = T.1.ents ++ more ∧ T2.2 = T.2 ++ more.map (·.st)) ∧ (∃ more, T2.1.runs = T.1.runs ++ more) ∧ T.1.bz ≤ T2.1.bz) l T ⟨⟨[], by simp, by simp⟩, ⟨[], by simp⟩, Int.le_refl _⟩ fun s _ e _ _ _ i hi T2 _ h => ?_
  obtain ⟨⟨m1, a1, a2⟩, ⟨m2, b1⟩, c1⟩ := h
  obtain ⟨m3, d1, d2, _⟩ := one_ents w e i T2
  obtain ⟨m4, f1, _⟩ := one_runs w e i T2
  have := (one_bz w e i T2).1
  exact ⟨⟨m1 ++ m3, by rw [d1, a1, List.append_assoc], by rw [d2, a2, List.append_assoc, List.map_append]⟩, ⟨m2 ++ m4, by rw [f1, b1, List.append_assoc]⟩, by omega⟩
end Pm
set_option maxHeartbeats 4000000
/-! Sml: small claims; their states stay small, and are few. -/
namespace Pm
structure SmC (c : Cl) : Prop extends COk c where
  top5 : c.w.top ≤ 5
  run2 : c.w.run ≤ 2
  rest2 : c.w.rest ≤ 2
  lag1 : c.w.lag ≤ 1
  hi3 : c.hi ≤ 3
structure Sml (c : Cl) (n : Option Int) (s : Sst) : Prop where
  shp : Shp c.w s
  lv : 0 ≤ s.lv ∧ s.lv ≤ c.w.top
  past : ∀ x ∈ s.past, 0 ≤ x ∧ x ≤ c.w.top
  runs : ∀ x ∈ s.runs, 0 ≤ x
  rsum : s.runs.sum ≤ 8
  rests : ∀ x ∈ s.rests, 0 ≤ x ∧ x ≤ 8
  num : numOf s = n
  rdy : ∀ r, s.ready = some r → 0 ≤ r
theorem len0 {α : Type} {l : List α} {k : Int} (h : (l.length : Int) = k) (e : k = 0) : l = [] := List.eq_nil_of_length_eq_zero (by omega)
theorem len1 {α : Type} {l : List α} {k : Int} (h : (l.length : Int) = k) (e : k = 1) : ∃ a, l = [a] := List.length_eq_one_iff.mp (by omega)
theorem len2 {α : Type} {l : List α} {k : Int} (h : (l.length : Int) = k) (e : k = 2) : ∃ a b, l = [a, b] := by
  match l, h with
  | [a, b], _ => exact ⟨a, b, rfl⟩
  | [], h => simp at h; omega
  | [_], h => simp at h; omega
  | _ :: _ :: _ :: _, h => simp at h; omega
theorem started_le {w : Wl} (hw : WOk w) {s : Sst} (hr : ∀ r, s.ready = some r → 0 ≤ r) : 0 ≤ startedS w s ∧ ∀ r, s.ready = some r → startedS w s ≤ r := by
  unfold startedS
  have := hw.starts
  split
  · cases h : s.ready with
    | none => exact ⟨by simp only; omega, fun r e => by cases e⟩
    | some r =>
      have := hr r h
      simp only
      refine ⟨by split <;> omega, fun q e => ?_⟩
      cases e
      split <;> omega
  · exact ⟨Int.le_refl _, fun r e => hr r e⟩
theorem stopped_le {w : Wl} {s : Sst} (h : 0 ≤ s.runs.getLastD 0) : 0 ≤ stoppedS w s ∧ stoppedS w s ≤ s.runs.getLastD 0 := by
  unfold stoppedS
  split
  · omega
  · split <;> omega
theorem Sml.beat {c : Cl} (hc : SmC c) {n : Option Int} {s t : Sst} (h : Sml c n s) {i : Int} (hi : i ∈ inf c.lo c.hi) (hb : beatS c.w s i = .st t) : Sml c n t := by
  have hw := hc.w
  have shp := Shp.beat hw h.shp hb
  obtain ⟨i1, i2⟩ := mem_inf.mp hi
  have := hc.infl
  have := hc.hi3
  have := hc.top5
  have hlv := h.lv
  obtain ⟨a0, ar⟩ := started_le hw h.rdy
  have hrl : 0 ≤ s.runs.getLastD 0 := by
    rw [List.getLastD_eq_getLast?]
    cases q : s.runs.getLast? with
    | none => exact Int.le_refl _
    | some x => exact h.runs x (List.mem_of_getLast? q)
  obtain ⟨b0, b1⟩ := stopped_le (w := c.w) hrl
  unfold beatS ledS at hb
  split at hb
  · cases hb
  · split at hb
    · cases hb
    · rename_i h1 h2
      cases hb
      generalize ea : startedS c.w s = a at *
      generalize eb : stoppedS c.w s = b at *
      have hruns := h.shp.runs
      have hrests := h.shp.rests
      have r1 := hw.run
      have r2 := hc.run2
      have t1 := hw.rest
      have t2 := hc.rest2
      have hrs := h.runs
      have hsum := h.rsum
      have hts := h.rests
      have dr := hw.drain
      -- the runs
      have hon : (∀ x ∈ agedOn s.runs a b, 0 ≤ x) ∧ (agedOn s.runs a b).sum = s.runs.sum + a - b := by
        rcases (show c.w.run = 1 ∨ c.w.run = 2 by omega) with e | e
        · obtain ⟨x, hx⟩ := len1 hruns e
          rw [hx] at hrs b1 ⊢
          simp [agedOn] at hrs b1 ⊢
          omega
        · obtain ⟨x, y, hx⟩ := len2 hruns e
          rw [hx] at hrs b1 ⊢
          simp [agedOn] at hrs b1 ⊢
          omega
      have hoff : (∀ x ∈ agedOff s.rests b, 0 ≤ x ∧ x ≤ 8) ∧ (agedOff s.rests b).sum + (b :: s.rests).getLastD 0 = s.rests.sum + b ∧ 0 ≤ (b :: s.rests).getLastD 0 := by
        have hb8 : b ≤ 8 := by
          rcases (show c.w.run = 1 ∨ c.w.run = 2 by omega) with e | e
          · obtain ⟨x, hx⟩ := len1 hruns e
            rw [hx] at hsum b1
            simp at hsum b1
            omega
          · obtain ⟨x, y, hx⟩ := len2 hruns e
            rw [hx] at hsum b1 hrs
            simp at hsum b1 hrs
            omega
        rcases (show c.w.rest - 1 = 0 ∨ c.w.rest - 1 = 1 by omega) with e | e
        · have hx := len0 hrests e
          rw [hx]
          simp [agedOff]
          omega
        · obtain ⟨x, hx⟩ := len1 hrests e
          rw [hx] at hts ⊢
          simp [agedOff] at hts ⊢
          omega
      have hlvS : lvS c.w s a b i = s.lv + i - c.w.drain * (agedOn s.runs a b).sum := rfl
      have hs0 : 0 ≤ (agedOn s.runs a b).sum := by
        have : ∀ l : List Int, (∀ x ∈ l, 0 ≤ x) → 0 ≤ l.sum := by
          intro l
          induction l with
          | nil => intro _; simp
          | cons y l ih =>
            intro hl
            have := hl y List.mem_cons_self
            have := ih fun z hz => hl z (List.mem_cons_of_mem _ hz)
            simp
            omega
        exact this _ hon.1
      have hdm : (agedOn s.runs a b).sum ≤ c.w.drain * (agedOn s.runs a b).sum := by
        have := Int.mul_le_mul_of_nonneg_right dr.1 hs0
        omega
      refine ⟨shp, ⟨by show 0 ≤ lvS c.w s a b i; omega, by show lvS c.w s a b i ≤ _; omega⟩, ?_, hon.1, by show (agedOn s.runs a b).sum ≤ 8; omega, hoff.1, ?_, ?_⟩
      · show ∀ x ∈ pastS c.w s, _
        intro x hx
        unfold pastS at hx
        split at hx
        · rcases List.mem_append.mp hx with k | k
          · exact h.past x (List.mem_of_mem_drop k)
          · rw [List.mem_singleton] at k
            subst k
            exact hlv
        · cases hx
      · have hn := h.num
        rw [← hn]
        unfold numOf
        show (agedRdy s.ready s.rests a b).map _ = _
        unfold agedRdy
        cases q : s.ready with
        | none => rfl
        | some r =>
          simp only [Option.map_some]
          congr 1
          show (agedOn s.runs a b).sum + (agedOff s.rests b).sum + _ = _
          omega
      · intro r hr
        have hr' : agedRdy s.ready s.rests a b = some r := hr
        unfold agedRdy at hr'
        cases q : s.ready with
        | none => rw [q] at hr'; cases hr'
        | some r0 =>
          rw [q] at hr'
          cases hr'
          have := ar r0 q
          show 0 ≤ r0 - a + (b :: s.rests).getLastD 0
          omega
theorem sum_zeros (k : Nat) : (List.replicate k (0 : Int)).sum = 0 := by
  induction k with
  | zero => rfl
  | succ k ih => simp [List.replicate_succ, ih]
theorem Sml.beg {c : Cl} (hc : COk c) {n : Option Int} (hn : NumOk n) {lv : Int} (h : lv ∈ inf c.frm c.to) : Sml c n (begS c.w n lv) := by
  obtain ⟨h1, h2⟩ := mem_inf.mp h
  have := hc.lvs
  refine ⟨begS_shp hc.w n lv, ⟨by show 0 ≤ lv; omega, by show lv ≤ _; omega⟩, fun x hx => ?_, fun x hx => ?_, ?_, fun x hx => ?_, ?_, fun r hr => (hn r hr).1⟩
  · rw [List.eq_of_mem_replicate hx]
    omega
  · rw [List.eq_of_mem_replicate hx]
    exact Int.le_refl _
  · show (List.replicate _ (0 : Int)).sum ≤ 8
    rw [sum_zeros]
    decide
  · rw [List.eq_of_mem_replicate hx]
    decide
  · unfold numOf begS
    simp only [sum_zeros]
    cases n <;> simp

/-! ### few states -/
def tri : Nat → Nat
  | 0 => 0
  | n + 1 => tri n + (n + 1)
def hd0 (l : List Int) : Nat := (l.headD 0).toNat
def runCode : List Int → Nat
  | [a, b] => tri (a.toNat + b.toNat) + a.toNat
  | [a] => a.toNat
  | _ => 0
def code (s : Sst) : Nat := s.lv.toNat + 6 * (hd0 s.past + 6 * (hd0 s.rests + 9 * runCode s.runs))
theorem tri_inj : ∀ a b x y : Nat, a + b ≤ 8 → x + y ≤ 8 → tri (a + b) + a = tri (x + y) + x → a = x ∧ b = y := by
  intro a b x y h1 h2 h
  have key : ∀ s t : Fin 9, ∀ a x : Fin 9, a.val ≤ s.val → x.val ≤ t.val → tri s.val + a.val = tri t.val + x.val → s = t ∧ a = x := by decide +kernel
  obtain ⟨k1, k2⟩ := key ⟨a + b, by omega⟩ ⟨x + y, by omega⟩ ⟨a, by omega⟩ ⟨x, by omega⟩ (by simp) (by simp) h
  have e1 : a + b = x + y := congrArg Fin.val k1
  have e2 : a = x := congrArg Fin.val k2
  omega
theorem tri_le : ∀ s a : Nat, s ≤ 8 → a ≤ s → tri s + a < 45 := by
  intro s a h1 h2
  have key : ∀ s a : Fin 9, a.val ≤ s.val → tri s.val + a.val < 45 := by decide +kernel
  exact key ⟨s, by omega⟩ ⟨a, by omega⟩ h2
theorem code_lt {c : Cl} (hc : SmC c) {n : Option Int} {s : Sst} (h : Sml c n s) : code s < 14580 := by
  have h1 := h.lv
  have h2 := hc.top5
  have h3 : hd0 s.past < 6 := by
    unfold hd0
    cases q : s.past with
    | nil => decide
    | cons x l =>
      have := h.past x (by rw [q]; exact List.mem_cons_self)
      simp
      omega
  have h4 : hd0 s.rests < 9 := by
    unfold hd0
    cases q : s.rests with
    | nil => decide
    | cons x l =>
      have := h.rests x (by rw [q]; exact List.mem_cons_self)
      simp
      omega
  have h5 : runCode s.runs < 45 := by
    have r1 := hc.w.run
    have r2 := hc.run2
    have hs := h.rsum
    have hr := h.runs
    rcases (show c.w.run = 1 ∨ c.w.run = 2 by omega) with e | e
    · obtain ⟨x, hx⟩ := len1 h.shp.runs e
      rw [hx] at hs hr ⊢
      simp [runCode] at hs hr ⊢
      omega
    · obtain ⟨x, y, hx⟩ := len2 h.shp.runs e
      rw [hx] at hs hr ⊢
      simp [runCode] at hs hr ⊢
      exact tri_le _ _ (by omega) (by omega)
  unfold code
  omega
theorem code_inj {c : Cl} (hc : SmC c) {n : Option Int} {s t : Sst} (h : Sml c n s) (k : Sml c n t) (e : code s = code t) : s = t := by
  have h1 := h.lv
  have k1 := k.lv
  have h2 := hc.top5
  have bd : ∀ u : Sst, Sml c n u → hd0 u.past < 6 ∧ hd0 u.rests < 9 := fun u hu => by
    constructor
    · unfold hd0
      cases q : u.past with
      | nil => decide
      | cons x l =>
        have := hu.past x (by rw [q]; exact List.mem_cons_self)
        simp
        omega
    · unfold hd0
      cases q : u.rests with
      | nil => decide
      | cons x l =>
        have := hu.rests x (by rw [q]; exact List.mem_cons_self)
        simp
        omega
  obtain ⟨b1, b2⟩ := bd s h
  obtain ⟨b3, b4⟩ := bd t k
  unfold code at e
  have e1 : s.lv = t.lv := by omega
  have e2 : hd0 s.past = hd0 t.past := by omega
  have e3 : hd0 s.rests = hd0 t.rests := by omega
  have e4 : runCode s.runs = runCode t.runs := by omega
  have f2 : s.past = t.past := by
    have l0 := hc.w.lag
    have l1 := hc.lag1
    rcases (show c.w.lag = 0 ∨ c.w.lag = 1 by omega) with q | q
    · rw [len0 h.shp.past q, len0 k.shp.past q]
    · obtain ⟨x, hx⟩ := len1 h.shp.past q
      obtain ⟨y, hy⟩ := len1 k.shp.past q
      have p1 := h.past x (by rw [hx]; simp)
      have p2 := k.past y (by rw [hy]; simp)
      rw [hx, hy] at e2 ⊢
      simp [hd0] at e2
      rw [show x = y by omega]
  have f3 : s.rests = t.rests := by
    have l0 := hc.w.rest
    have l1 := hc.rest2
    rcases (show c.w.rest - 1 = 0 ∨ c.w.rest - 1 = 1 by omega) with q | q
    · rw [len0 h.shp.rests q, len0 k.shp.rests q]
    · obtain ⟨x, hx⟩ := len1 h.shp.rests q
      obtain ⟨y, hy⟩ := len1 k.shp.rests q
      have p1 := h.rests x (by rw [hx]; simp)
      have p2 := k.rests y (by rw [hy]; simp)
      rw [hx, hy] at e3 ⊢
      simp [hd0] at e3
      rw [show x = y by omega]
  have f4 : s.runs = t.runs := by
    have r1 := hc.w.run
    have r2 := hc.run2
    have hs := h.rsum
    have hr := h.runs
    have ks := k.rsum
    have kr := k.runs
    rcases (show c.w.run = 1 ∨ c.w.run = 2 by omega) with q | q
    · obtain ⟨x, hx⟩ := len1 h.shp.runs q
      obtain ⟨y, hy⟩ := len1 k.shp.runs q
      rw [hx] at hr hs e4 ⊢
      rw [hy] at kr ks e4 ⊢
      simp [runCode] at hr kr e4
      rw [show x = y by omega]
    · obtain ⟨x, x', hx⟩ := len2 h.shp.runs q
      obtain ⟨y, y', hy⟩ := len2 k.shp.runs q
      rw [hx] at hr hs e4 ⊢
      rw [hy] at kr ks e4 ⊢
      simp [runCode] at hr kr hs ks e4
      obtain ⟨g1, g2⟩ := tri_inj _ _ _ _ (by omega) (by omega) e4
      rw [show x = y by omega, show x' = y' by omega]
  have f5 : s.ready = t.ready := by
    have n1 := h.num
    have n2 := k.num
    unfold numOf at n1 n2
    rw [f4, f3] at n1
    rw [← n2] at n1
    cases q1 : s.ready <;> cases q2 : t.ready <;> rw [q1, q2] at n1 <;> simp at n1
    rw [show _ = _ from n1]
  cases s; cases t
  simp only at e1 f2 f3 f4 f5
  rw [e1, f2, f3, f4, f5]
theorem nodup_lt : ∀ (N : Nat) (l : List Nat), l.Nodup → (∀ x ∈ l, x < N) → l.length ≤ N
  | 0, l, _, h => by
    cases l with
    | nil => exact Nat.le_refl _
    | cons x l => exact absurd (h x List.mem_cons_self) (by omega)
  | N + 1, l, hn, h => by
    by_cases hm : N ∈ l
    · have h1 := List.length_erase_of_mem hm
      have h2 := nodup_lt N (l.erase N) (hn.erase N) fun x hx => by
        obtain ⟨a, b⟩ := (List.Nodup.mem_erase_iff hn).mp hx
        have := h x b
        omega
      omega
    · have h2 := nodup_lt N l hn fun x hx => by
        have := h x hx
        have : x ≠ N := fun e => hm (e ▸ hx)
        omega
      omega
theorem few {c : Cl} (hc : SmC c) {n : Option Int} {l : List Sst} (hn : l.Nodup) (h : ∀ s ∈ l, Sml c n s) : l.length ≤ 14580 := by
  have h1 := nodup_lt 14580 (l.map code) (by
    have : ∀ l : List Sst, l.Nodup → (∀ s ∈ l, Sml c n s) → (l.map code).Nodup := by
      intro l
      induction l with
      | nil => intro _ _; simp
      | cons a l ih =>
        intro hn hs
        rw [List.nodup_cons] at hn
        rw [List.map_cons, List.nodup_cons]
        refine ⟨fun hm => ?_, ih hn.2 fun s hs' => hs s (List.mem_cons_of_mem _ hs')⟩
        obtain ⟨b, hb, e⟩ := List.mem_map.mp hm
        have := code_inj hc (hs b (List.mem_cons_of_mem _ hb)) (hs a List.mem_cons_self) e
        subst this
        exact hn.1 hb
    exact this l hn h) fun x hx => by
      obtain ⟨s, hs, rfl⟩ := List.mem_map.mp hx
      exact code_lt hc (h s hs)
  simpa using h1

/-! ### the search keeps in order -/
structure Good (c : Cl) (n : Option Int) (T : Sr × List Sst) : Prop where
  nd : (T.1.ents.map (·.st)).Nodup
  sm : ∀ e ∈ T.1.ents, Sml c n e.st
  pc0 : ∀ e ∈ T.1.ents, e.par = none → e.pth = [] ∧ e.lv = e.st.lv
  pc1 : ∀ e ∈ T.1.ents, ∀ q i, e.par = some (q, i) → ∃ e' ∈ T.1.ents, e'.st = q ∧ e.pth = e'.pth ++ [i] ∧ e.lv = e'.lv
  ln : ∀ e ∈ T.1.ents, e.pth.length < T.1.ents.length
  rw : ∀ r ∈ T.1.runs, isWord r.1 = true ∧ r.2.2.length ≤ T.1.ents.length
  rn : (T.1.runs.map (·.1)).Nodup
  ly : ∀ s ∈ T.2, (findE T.1.ents s).isSome = true
  lyn : T.2.length ≤ T.1.ents.length
theorem Good.few {c : Cl} (hc : SmC c) {n : Option Int} {T : Sr × List Sst} (h : Good c n T) : T.1.ents.length ≤ 14580 := by
  have := Pm.few hc h.nd fun s hs => by
    obtain ⟨e, he, rfl⟩ := List.mem_map.mp hs
    exact h.sm e he
  simpa using this
theorem isWord_le {l : List Rs} (hn : l.Nodup) (h : ∀ r ∈ l, isWord r = true) : l.length ≤ 2 := by
  have h1 : ∀ r, isWord r = true → r = .over ∨ r = .dry := fun r hr => by
    cases r with
    | over => exact .inl rfl
    | dry => exact .inr rfl
    | st s => cases hr
  match l, hn, h with
  | [], _, _ => exact Nat.zero_le 2
  | [_], _, _ => exact Nat.le_succ 1
  | [_, _], _, _ => exact Nat.le_refl 2
  | a :: b :: d :: r, hn, h =>
    exfalso
    rw [List.nodup_cons, List.nodup_cons, List.nodup_cons] at hn
    have ha := h1 a (h a (by simp))
    have hb := h1 b (h b (by simp))
    have hd := h1 d (h d (by simp))
    have k1 : a ≠ b := fun e => hn.1 (by simp [e])
    have k2 : a ≠ d := fun e => hn.1 (by simp [e])
    have k3 : b ≠ d := fun e => hn.2.1 (by simp [e])
    rcases ha with rfl | rfl <;> rcases hb with rfl | rfl <;> rcases hd with rfl | rfl <;> first | exact k1 rfl | exact k2 rfl | exact k3 rfl
theorem Good.runs2 {c : Cl} {n : Option Int} {T : Sr × List Sst} (h : Good c n T) : T.1.runs.length ≤ 2 := by
  have := isWord_le h.rn fun r hr => by
    obtain ⟨x, hx, rfl⟩ := List.mem_map.mp hr
    exact (h.rw x hx).1
  simpa using this
theorem Good.one {c : Cl} (hc : SmC c) {n : Option Int} {T : Sr × List Sst} (h : Good c n T) {e : Ent} (he : e ∈ T.1.ents) {i : Int} (hi : i ∈ inf c.lo c.hi) : Good c n (Pm.one c.w e i T) := by
  have hnat : ∀ r : Rs, isWord r = true → (hasR T.1.runs r = false) → beatS c.w e.st i = r → Good c n ⟨⟨T.1.ents, T.1.runs ++ [(r, e.lv, e.pth ++ [i])], (Pm.one c.w e i T).1.bz⟩, T.2⟩ := by
    intro r hr hn hb
    refine ⟨h.nd, h.sm, h.pc0, h.pc1, h.ln, ?_, ?_, h.ly, h.lyn⟩
    · intro x hx
      rcases List.mem_append.mp hx with hx | hx
      · exact h.rw x hx
      · rw [List.mem_singleton] at hx
        subst hx
        have := h.ln e he
        exact ⟨hr, by show (e.pth ++ [i]).length ≤ _; rw [List.length_append]; exact this⟩
    · show ((T.1.runs ++ [(r, e.lv, e.pth ++ [i])]).map (·.1)).Nodup
      rw [List.map_append, List.nodup_append]
      refine ⟨h.rn, by simp, fun a ha b hb' => ?_⟩
      simp at hb'
      subst hb'
      intro e2
      subst e2
      obtain ⟨x, hx, rfl⟩ := List.mem_map.mp ha
      have : hasR T.1.runs x.1 = true := by
        unfold hasR
        rw [List.any_eq_true]
        exact ⟨x, hx, by simp⟩
      rw [hn] at this
      cases this
  have same : ∀ b, Good c n ⟨⟨T.1.ents, T.1.runs, b⟩, T.2⟩ := fun b => ⟨h.nd, h.sm, h.pc0, h.pc1, h.ln, h.rw, h.rn, h.ly, h.lyn⟩
  have hmain := hnat
  unfold Pm.one at hmain ⊢
  cases hb : beatS c.w e.st i with
  | over =>
    rw [hb] at hmain
    simp only at hmain ⊢
    split
    · exact same _
    · rename_i hh
      have := hmain .over rfl (by simpa using hh) rfl
      rw [if_neg hh] at this
      exact this
  | dry =>
    rw [hb] at hmain
    simp only at hmain ⊢
    split
    · exact same _
    · rename_i hh
      have := hmain .dry rfl (by simpa using hh) rfl
      rw [if_neg hh] at this
      exact this
  | st t =>
    simp only
    split
    · exact same _
    · rename_i hn
      have hn' : findE T.1.ents t = none := by simpa using hn
      have hne := findE_none.mp hn'
      refine ⟨?_, ?_, ?_, ?_, ?_, ?_, h.rn, ?_, by simpa using h.lyn⟩
      · show ((T.1.ents ++ [(⟨t, some (e.st, i), e.lv, e.pth ++ [i]⟩ : Ent)]).map (·.st)).Nodup
        rw [List.map_append, List.nodup_append]
        refine ⟨h.nd, List.pairwise_singleton _ _, fun a ha b hb' => ?_⟩
        simp at hb'
        subst hb'
        obtain ⟨x, hx, rfl⟩ := List.mem_map.mp ha
        exact hne x hx
      · intro x hx
        rcases List.mem_append.mp hx with hx | hx
        · exact h.sm x hx
        · rw [List.mem_singleton] at hx
          subst hx
          exact (h.sm e he).beat hc hi hb
      · intro x hx hp
        rcases List.mem_append.mp hx with hx | hx
        · exact h.pc0 x hx hp
        · rw [List.mem_singleton] at hx
          subst hx
          cases hp
      · intro x hx q j hp
        rcases List.mem_append.mp hx with hx | hx
        · obtain ⟨e', h1, h2⟩ := h.pc1 x hx q j hp
          exact ⟨e', List.mem_append_left _ h1, h2⟩
        · rw [List.mem_singleton] at hx
          subst hx
          cases hp
          exact ⟨e, List.mem_append_left _ he, rfl, rfl, rfl⟩
      · intro x hx
        show x.pth.length < (T.1.ents ++ [_]).length
        rw [List.length_append]
        rcases List.mem_append.mp hx with hx | hx
        · have := h.ln x hx
          omega
        · rw [List.mem_singleton] at hx
          subst hx
          have := h.ln e he
          show (e.pth ++ [i]).length < _
          rw [List.length_append]
          simp
          exact this
      · intro x hx
        obtain ⟨a, b⟩ := h.rw x hx
        refine ⟨a, ?_⟩
        show _ ≤ (T.1.ents ++ [_]).length
        rw [List.length_append]
        omega
      · intro s hs
        show (findE (T.1.ents ++ [_]) s).isSome = true
        rw [findE_isSome]
        rcases List.mem_append.mp hs with hs | hs
        · obtain ⟨x, h1, h2⟩ := findE_isSome.mp (h.ly s hs)
          exact ⟨x, List.mem_append_left _ h1, h2⟩
        · rw [List.mem_singleton] at hs
          subst hs
          exact ⟨_, List.mem_append_right _ (List.mem_singleton.mpr rfl), rfl⟩
theorem Good.lay0 {c : Cl} {n : Option Int} {T : Sr × List Sst} (h : Good c n T) : Good c n (T.1, []) := ⟨h.nd, h.sm, h.pc0, h.pc1, h.ln, h.rw, h.rn, fun s hs => (nomatch hs), Nat.zero_le _⟩
theorem Good.behind {c : Cl} (hc : SmC c) {n : Option Int} {T : Sr × List Sst} (h : Good c n T) {e : Ent} (he : e ∈ T.1.ents) (is : List Int) (hi : ∀ i ∈ is, i ∈ inf c.lo c.hi) : Good c n (behindM c.w e is T) := by
  have := behindM_inv (w := c.w) (e := e) (Pr := fun T2 => e ∈ T2.1.ents ∧ Good c n T2) is T ⟨he, h⟩ fun i hi' T2 ⟨h1, h2⟩ => by
    obtain ⟨more, m1, _⟩ := one_ents c.w e i T2
    exact ⟨by rw [m1]; exact List.mem_append_left _ h1, h2.one hc h1 (hi i hi')⟩
  exact this.2
theorem Good.step {c : Cl} (hc : SmC c) {n : Option Int} {T : Sr × List Sst} (h : Good c n T) : Good c n (stepM c T) := by
  unfold stepM
  refine layM_inv (w := c.w) (is := inf c.lo c.hi) (Pr := Good c n) T.2 (T.1, []) h.lay0 fun s hs e T1 hq h1 i hi T2 h2 h3 => ?_
  exact h3.one hc (findE_st h2).2 hi
theorem inf_nodup (lo hi : Int) : (inf lo hi).Nodup := by
  unfold inf
  exact List.Pairwise.map _ (fun a b hab e => hab (by omega)) List.nodup_range
theorem Good.beg {c : Cl} (hc : COk c) {n : Option Int} (hn : NumOk n) : Good c n (beg0 c n) := by
  have me : ∀ e ∈ (beg0 c n).1.ents, ∃ lv ∈ inf c.frm c.to, e = ⟨begS c.w n lv, none, lv, []⟩ := fun e he => by
    obtain ⟨lv, h1, rfl⟩ := List.mem_map.mp he
    exact ⟨lv, h1, rfl⟩
  refine ⟨?_, fun e he => ?_, fun e he _ => ?_, fun e he q i hp => ?_, fun e he => ?_, fun r hr => (nomatch hr), List.nodup_nil, fun s hs => ?_, by simp [beg0]⟩
  · show (((inf c.frm c.to).map fun lv => (⟨begS c.w n lv, none, lv, []⟩ : Ent)).map (·.st)).Nodup
    rw [List.map_map]
    exact List.Pairwise.map _ (fun a b hab e => hab (congrArg Sst.lv e)) (inf_nodup _ _)
  · obtain ⟨lv, h1, rfl⟩ := me e he
    exact Sml.beg hc hn h1
  · obtain ⟨lv, h1, rfl⟩ := me e he
    exact ⟨rfl, rfl⟩
  · obtain ⟨lv, h1, rfl⟩ := me e he
    cases hp
  · have : 0 < (beg0 c n).1.ents.length := List.length_pos_of_mem he
    obtain ⟨lv, h1, rfl⟩ := me e he
    exact this
  · obtain ⟨lv, h1, rfl⟩ := List.mem_map.mp hs
    exact findE_isSome.mpr ⟨⟨begS c.w n lv, none, lv, []⟩, List.mem_map.mpr ⟨lv, h1, rfl⟩, rfl⟩
theorem Good.srN {c : Cl} (hc : SmC c) {n : Option Int} (hn : NumOk n) : ∀ k, Good c n (srN c n k)
  | 0 => Good.beg hc.toCOk hn
  | k + 1 => (Good.srN hc hn k).step hc
end Pm
set_option maxHeartbeats 4000000
/-! SA: what stays while an object changes; a Search in the heap. -/
namespace L2
open PySem PySem.Spec PyProof.Rows
section
variable {K : PySem.W.Frag} {H H' H'' : Hp} {S : List Addr}
/-- all stays but what stands in S -/
def Kp (S : List Addr) (H H' : Hp) : Prop := ∀ b o, H b = some o → b ∉ S → H' b = some o
/-- no list, no tuple -/
def NoDat (o : Option HO) : Prop := NoSeq o ∧ ∀ xs, o ≠ some (.lst xs)
def NoDats (S : List Addr) (H : Hp) : Prop := ∀ b ∈ S, NoDat (H b)
theorem Kp.refl : Kp S H H := fun _ _ h _ => h
theorem Kp.trans (h : Kp S H H') (k : Kp S H' H'') : Kp S H H'' := fun b o e n => k b o (h b o e n) n
theorem Same.kp (h : Same H H') : Kp S H H' := fun b o e _ => h b o e
theorem Kp.upd {p : Addr} {o : HO} (h : Kp S H H') (hp : p ∈ S) : Kp S H (L2.upd H' p o) := fun b u e n => by
  rw [upd_ne (fun z : b = p => n (by rw [z]; exact hp))]
  exact h b u e n
theorem Kp.free {a : Addr} (h : Kp S H H') (hn : H' a = none) (ha : a ∉ S) : H a = none := by
  cases e : H a with
  | none => rfl
  | some o =>
    have := h a o e ha
    rw [hn] at this
    cases this
theorem SqL.kp {a : Addr} {xs : List V} (h : Kp S H H') (n : NoDats S H) (q : SqL K H a xs) : SqL K H' a xs := by
  rcases q with (q | ⟨o, q⟩) | q
  · exact .inl (.inl (h _ _ q fun z => (n a z).2 xs q))
  · exact .inl (.inr ⟨o, h _ _ q fun z => (n a z).1.2 o _ q⟩)
  · exact .inr q
theorem SqT.kp {a : Addr} {xs : List V} (h : Kp S H H') (n : NoDats S H) (q : SqT K H a xs) : SqT K H' a xs := by
  rcases q with (q | ⟨o, q⟩) | q
  · exact .inl (.inl (h _ _ q fun z => (n a z).1.1 xs q))
  · exact .inl (.inr ⟨o, h _ _ q fun z => (n a z).1.2 o _ q⟩)
  · exact .inr q
mutual
theorem Dp.kp (e : Kp S H H') (n : NoDats S H) : ∀ {d : PyData} {v : V}, Dp K H v d → Dp K H' v d
  | _, _, .non => .non
  | _, _, .bl b => .bl b
  | _, _, .int i => .int i
  | _, _, .str x => .str x
  | _, _, .lst h r => .lst (SqL.kp e n h) (DpAll.kp e n r)
  | _, _, .tup h r => .tup (SqT.kp e n h) (DpAll.kp e n r)
theorem DpAll.kp (e : Kp S H H') (n : NoDats S H) : ∀ {ds : List PyData} {vs : List V}, DpAll K H vs ds → DpAll K H' vs ds
  | _, _, .nil => .nil
  | _, _, .cons h r => .cons (Dp.kp e n h) (DpAll.kp e n r)
end
theorem env_nil : EnvD K H [] [] := ⟨rfl, fun i d h => by simp at h⟩
theorem env_no {σ : St} {ρ : DE} {x : Option V} (h : EnvD K H σ ρ) : EnvD K H (x :: σ) (none :: ρ) := ⟨by simp [h.1], fun i d hi => by
  cases i with
  | zero => simp at hi
  | succ i => exact h.2 i d (by simpa using hi)⟩
theorem env_c {σ : St} {ρ : DE} {v : V} {d : PyData} (hv : Dp K H v d) (h : EnvD K H σ ρ) : EnvD K H (some v :: σ) (some d :: ρ) := ⟨by simp [h.1], fun i d' hi => by
  cases i with
  | zero => simp at hi; subst hi; exact ⟨v, rfl, hv⟩
  | succ i => exact h.2 i d' (by simpa using hi)⟩
theorem dp_int {v : V} {i : Int} (h : Dp K H v (.int i)) : v = .int i := by cases h; rfl
theorem dp_str {v : V} {x : Str} (h : Dp K H v (.str x)) : v = .str x := by cases h; rfl
theorem dp_bl {v : V} {b : Bool} (h : Dp K H v (.bool b)) : v = .bl b := by cases h; rfl
theorem dp_non {v : V} (h : Dp K H v .none) : v = .non := by cases h; rfl
theorem dp_tup {v : V} {ds : List PyData} (h : Dp K H v (.tuple ds)) : ∃ p xs, v = .ref p ∧ SqT K H p xs ∧ DpAll K H xs ds := by cases h with | tup a b => exact ⟨_, _, rfl, a, b⟩
theorem dp_lst {v : V} {ds : List PyData} (h : Dp K H v (.list ds)) : ∃ p xs, v = .ref p ∧ SqL K H p xs ∧ DpAll K H xs ds := by cases h with | lst a b => exact ⟨_, _, rfl, a, b⟩
end
end L2
namespace Pm
open PySem PySem.Spec PyProof.Rows L2

/-! ### a Search -/
def encPar : Option (Sst × Int) → PyData
  | none => .none
  | some (p, i) => .tuple [encS p, .int i]
def wordOf : Rs → Str
  | .over => sOver
  | .dry => sDry
  | .st _ => ""
theorem encR_word {r : Rs} (h : isWord r = true) : encR r = .str (wordOf r) := by cases r <;> first | rfl | cases h
theorem wordOf_inj {a b : Rs} (ha : isWord a = true) (hb : isWord b = true) (h : wordOf a = wordOf b) : a = b := by
  have hne : sOver ≠ sDry := by decide +kernel
  cases a <;> cases b <;> first | rfl | (cases ha; done) | (cases hb; done) | exact absurd h hne | exact absurd h.symm hne
theorem nKR : ¬ (("known" : Str) = "runs") := by decide +kernel
theorem nKB : ¬ (("known" : Str) = "busy") := by decide +kernel
theorem nRB : ¬ (("runs" : Str) = "busy") := by decide +kernel
theorem nRK : ¬ (("runs" : Str) = "known") := by decide +kernel
theorem nBK : ¬ (("busy" : Str) = "known") := by decide +kernel
theorem nBR : ¬ (("busy" : Str) = "runs") := by decide +kernel
/-- the attributes, as stored -/
def flds (d1 d2 : Addr) (z : Int) : List (Str × V) := putF "busy" (.int z) (putF "runs" (.ref d2) (putF "known" (.ref d1) []))
theorem flds_known (d1 d2 : Addr) (z : Int) : (flds d1 d2 z).lookup ("known" : Str) = some (.ref d1) := by
  unfold flds
  rw [lookup_putF, if_neg nKB, lookup_putF, if_neg nKR, lookup_putF, if_pos rfl]
theorem flds_runs (d1 d2 : Addr) (z : Int) : (flds d1 d2 z).lookup ("runs" : Str) = some (.ref d2) := by
  unfold flds
  rw [lookup_putF, if_neg nRB, lookup_putF, if_pos rfl]
theorem flds_busy (d1 d2 : Addr) (z : Int) : (flds d1 d2 z).lookup ("busy" : Str) = some (.int z) := by
  unfold flds
  rw [lookup_putF, if_pos rfl]
theorem flds_no (d1 d2 : Addr) (z : Int) {m : Str} (h1 : ¬ m = "busy") (h2 : ¬ m = "runs") (h3 : ¬ m = "known") : (flds d1 d2 z).lookup m = none := by
  unfold flds
  rw [lookup_putF, if_neg h1, lookup_putF, if_neg h2, lookup_putF, if_neg h3]
  all_goals rfl
theorem flds_eq (d1 d2 : Addr) (z : Int) : flds d1 d2 z = ([("known", V.ref d1), ("runs", V.ref d2), ("busy", V.int z)] : List (Str × V)) := by
  unfold flds
  simp only [putF, if_neg nKR, if_neg nKB, if_neg nRB]
theorem flds_put (d1 d2 : Addr) (z y : Int) : putF "busy" (.int y) (flds d1 d2 z) = flds d1 d2 y := by
  rw [flds_eq, flds_eq]
  simp only [putF, if_neg nKB, if_neg nRB, if_true]
theorem flds_len (d1 d2 : Addr) (z : Int) : (flds d1 d2 z).length < 1000 := by
  rw [flds_eq]
  show 3 < 1000
  decide
def EntR (K : PySem.W.Frag) (H : Hp) (q : Sst × V) (e : Ent) : Prop := q.1 = e.st ∧ Dp K H q.2 (encPar e.par)
def RunR (K : PySem.W.Frag) (H : Hp) (q : Key × V) (r : Rs × Int × List Int) : Prop := q.1 = Sum.inr (wordOf r.1) ∧ isWord r.1 = true ∧ Dp K H q.2 (encI (r.2.1 :: r.2.2))
structure SeAt (P : Program) (w : World) (K : PySem.W.Frag) (C : Addr) (H : Hp) (p d1 d2 : Addr) (S : Sr) : Prop where
  ob : ∃ dx, H p = some (.ins C dx (flds d1 d2 S.bz))
  kn : ∃ kvs, DSt P w K H d1 kvs ∧ Paired (EntR K H) kvs S.ents
  ru : ∃ rvs, H d2 = some (.dK rvs) ∧ Paired (RunR K H) rvs S.runs
section
variable {P : Program} {w : World} {K : PySem.W.Frag} {C : Addr} {H H' : Hp} {p d1 d2 : Addr} {S : Sr}
theorem noDat_ins {C dx : Addr} {fs : List (Str × V)} : NoDat (some (.ins C dx fs)) := ⟨⟨fun _ z => (nomatch z), fun _ _ z => (nomatch z)⟩, fun _ z => (nomatch z)⟩
theorem noDat_dK {kvs : List (Key × V)} : NoDat (some (.dK kvs)) := ⟨⟨fun _ z => (nomatch z), fun _ _ z => (nomatch z)⟩, fun _ z => (nomatch z)⟩
theorem noDat_ext {φ : Heap → Prop} : NoDat (some (.ext φ)) := ⟨⟨fun _ z => (nomatch z), fun _ _ z => (nomatch z)⟩, fun _ z => (nomatch z)⟩
theorem SeAt.noDats (h : SeAt P w K C H p d1 d2 S) : NoDats [p, d1, d2] H := by
  obtain ⟨⟨dx, h1⟩, ⟨kvs, h2, _⟩, ⟨rvs, h3, _⟩⟩ := h
  obtain ⟨φ, h2⟩ := h2.some
  intro b hb
  rcases List.mem_cons.mp hb with rfl | hb
  · rw [h1]; exact noDat_ins
  · rcases List.mem_cons.mp hb with rfl | hb
    · rw [h2]; exact noDat_ext
    · rw [List.mem_singleton] at hb
      subst hb
      rw [h3]; exact noDat_dK
theorem SeAt.ne (h : SeAt P w K C H p d1 d2 S) : p ≠ d1 ∧ p ≠ d2 ∧ d1 ≠ d2 := by
  obtain ⟨⟨dx, h1⟩, ⟨kvs, h2, _⟩, ⟨rvs, h3, _⟩⟩ := h
  obtain ⟨φ, h2⟩ := h2.some
  exact ⟨ne_of h1 h2 (by intro z; cases z), ne_of h1 h3 (by intro z; cases z), ne_of h2 h3 (by intro z; cases z)⟩
theorem SeAt.same (h : SeAt P w K C H p d1 d2 S) (e : Same H H') : SeAt P w K C H' p d1 d2 S := by
  obtain ⟨⟨dx, h1⟩, ⟨kvs, h2, h4⟩, ⟨rvs, h3, h5⟩⟩ := h
  exact ⟨⟨dx, e _ _ h1⟩, ⟨kvs, h2.same e, Paired.mapP h4 fun q x r => ⟨r.1, r.2.same e⟩⟩, ⟨rvs, e _ _ h3, Paired.mapP h5 fun q x r => ⟨r.1, r.2.1, r.2.2.same e⟩⟩⟩
theorem SeAt.live (h : SeAt P w K C H p d1 d2 S) : ∀ b ∈ [p, d1, d2], ∃ o, H b = some o := by
  obtain ⟨⟨dx, h1⟩, ⟨kvs, h2, _⟩, ⟨rvs, h3, _⟩⟩ := h
  obtain ⟨φ, h2⟩ := h2.some
  intro b hb
  rcases List.mem_cons.mp hb with rfl | hb
  · exact ⟨_, h1⟩
  · rcases List.mem_cons.mp hb with rfl | hb
    · exact ⟨_, h2⟩
    · rw [List.mem_singleton] at hb
      subst hb
      exact ⟨_, h3⟩
theorem SeAt.out (h : SeAt P w K C H p d1 d2 S) {a : Addr} (ha : H a = none) : a ∉ [p, d1, d2] := fun z => by
  obtain ⟨o, e⟩ := h.live a z
  rw [ha] at e
  cases e
/-- another object changes -/
theorem SeAt.upd (h : SeAt P w K C H p d1 d2 S) {a : Addr} {o : HO} (ha : a ∉ [p, d1, d2]) (hn : NoSeq (H a)) : SeAt P w K C (L2.upd H a o) p d1 d2 S := by
  obtain ⟨⟨dx, h1⟩, ⟨kvs, h2, h4⟩, ⟨rvs, h3, h5⟩⟩ := h
  have n1 : p ≠ a := fun z => ha (by rw [z]; simp)
  have n2 : d1 ≠ a := fun z => ha (by rw [z]; simp)
  have n3 : d2 ≠ a := fun z => ha (by rw [z]; simp)
  refine ⟨⟨dx, by rw [upd_ne n1]; exact h1⟩, ⟨kvs, h2.upd hn n2, Paired.mapP h4 fun q x r => ⟨r.1, Dp.upd hn r.2 ?_⟩⟩, ⟨rvs, by rw [upd_ne n3]; exact h3, Paired.mapP h5 fun q x r => ⟨r.1, r.2.1, Dp.upd hn r.2.2 (noL_I _)⟩⟩⟩
  cases x.par with
  | none => rfl
  | some pq =>
    obtain ⟨q1, q2⟩ := pq
    simp only [encPar, noL, noLAll, noL_S, Bool.and_self]
theorem noL_Par (o : Option (Sst × Int)) : noL (encPar o) = true := by
  cases o with
  | none => rfl
  | some pq =>
    obtain ⟨q1, q2⟩ := pq
    simp only [encPar, noL, noLAll, noL_S, Bool.and_self]
theorem getS_find : ∀ {kvs : List (Sst × V)} {es : List Ent} (s : Sst), Paired (EntR K H) kvs es → (findE es s = none → getS kvs s = none) ∧ (∀ e, findE es s = some e → ∃ v, getS kvs s = some v ∧ Dp K H v (encPar e.par))
  | [], _, s, .nil => ⟨fun _ => rfl, fun e h => by cases h⟩
  | q :: kvs, e :: es, s, .cons r t => by
    obtain ⟨ih1, ih2⟩ := getS_find s t
    by_cases h : e.st = s
    · have hq : q.1 = s := r.1.trans h
      refine ⟨fun hn => ?_, fun e' he => ?_⟩
      · simp [findE, h] at hn
      · have : e' = e := by simpa [findE, h] using he.symm
        subst this
        exact ⟨q.2, by simp [getS, hq], r.2⟩
    · have hq : ¬ q.1 = s := by rw [r.1]; exact h
      refine ⟨fun hn => ?_, fun e' he => ?_⟩
      · have := ih1 (by simpa [findE, h] using hn)
        simpa [getS, hq] using this
      · obtain ⟨v, h1, h2⟩ := ih2 e' (by simpa [findE, h] using he)
        exact ⟨v, by simpa [getS, hq] using h1, h2⟩
theorem valV_find : ∀ {rvs : List (Key × V)} {rs : List (Rs × Int × List Int)} {r : Rs}, isWord r = true → Paired (RunR K H) rvs rs → (valV rvs (Sum.inr (wordOf r) : Key)).isSome = hasR rs r
  | [], _, r, hr, .nil => rfl
  | q :: rvs, x :: rs, r, hr, .cons h t => by
    have ih := valV_find hr t
    obtain ⟨h1, h2, _⟩ := h
    by_cases e : x.1 = r
    · have : q.1 = (Sum.inr (wordOf r) : Key) := by rw [h1, e]
      simp [valV, hasR, this, e]
    · have : ¬ q.1 = (Sum.inr (wordOf r) : Key) := by
        rw [h1]
        intro z
        injection z with z
        exact e (wordOf_inj h2 hr z)
      simpa [valV, hasR, this, e] using ih
theorem mem_find {es : List Ent} (hn : (es.map (·.st)).Nodup) {e : Ent} (he : e ∈ es) : findE es e.st = some e := by
  cases q : findE es e.st with
  | none => exact absurd rfl (findE_none.mp q e he)
  | some e' =>
    obtain ⟨h1, h2⟩ := findE_st q
    have : ∀ es : List Ent, (es.map (·.st)).Nodup → e ∈ es → e' ∈ es → e' = e := by
      intro es
      induction es with
      | nil => intro _ h; cases h
      | cons a l ih =>
        intro hn ha hb
        rw [List.map_cons, List.nodup_cons] at hn
        rcases List.mem_cons.mp ha with e1 | ha1
        · rcases List.mem_cons.mp hb with e2 | hb1
          · rw [e1, e2]
          · exact absurd (List.mem_map.mpr ⟨e', hb1, by rw [h1, e1]⟩) hn.1
        · rcases List.mem_cons.mp hb with e2 | hb1
          · exact absurd (List.mem_map.mpr ⟨e, ha1, by rw [← e2, h1]⟩) hn.1
          · exact ih hn.2 ha1 hb1
    rw [this es hn he h2]
end
end Pm
set_option maxHeartbeats 4000000
/-! SB: Search.run_to -/
namespace Pm
open PySem PySem.Spec PyProof.Rows L2
structure TSe (K : PySem.W.Frag) (mg : Str → Option Value) (C : Addr) : Prop where
  cl : Cls K C
  nK : NoAttr K C "known"
  nR : NoAttr K C "runs"
  nB : NoAttr K C "busy"
  mgC : mg "Search" = some (.ref C)
abbrev sBehind : Stmt := inClass (top 47) 1
abbrev sRunTo : Stmt := inClass (top 47) 2
abbrev sWord : Stmt := inClass (top 47) 3
abbrev sSInit : Stmt := inClass (top 47) 0
section
variable {P : Program} {w : World} {K : PySem.W.Frag} {mg : Str → Option Value} {base : Heap} {C : Addr}
def spRun (P : Program) (w : World) (C : Addr) (K : PySem.W.Frag) : Sp := fun vs H Q _ => ∃ (p d1 d2 : Addr) (v : V) (c : Cl) (n : Option Int) (T : Sr × List Sst) (e : Ent), vs = [.ref p, v] ∧ SmC c ∧ Good c n T ∧ e ∈ T.1.ents ∧ SeAt P w K C H p d1 d2 T.1 ∧ Dp K H v (encS e.st) ∧
  ∀ v' H', Same H H' → Dp K H' v' (encI (e.lv :: e.pth)) → Q v' H'
theorem sc_run_to : FnScope ["self", "state", "found", "inflow"] ["self", "state"] (defScope sRunTo) := ⟨rfl, rfl, rfl, by decide +kernel, rfl, by decide +kernel, by decide +kernel⟩
theorem gAdd_II (xs ys : List Int) (h : xs.length + ys.length ≤ 100000) : gAdd (.tuple (xs.map .int)) (.tuple (ys.map .int)) = some (encI (xs ++ ys)) := by
  rw [gAdd_tup, if_pos (by simpa using h)]
  simp [encI]
theorem ok_run_to {f : Addr} {fd : FuncData} (F : Fun K "run_to" "Search.run_to" sRunTo f fd) (T : TSe K mg C) : FnOk P w K mg base CX0 1 f fd ["self", "state"] (spRun P w C K) := by
  refine F.ok sc_run_to (fun vs H Q E h => ?_) (fun cdv A outer s H vs Q E hr h => ?_)
  · obtain ⟨p, d1, d2, v, c, n, T, e, rfl, _⟩ := h
    rfl
  · obtain ⟨p, d1, d2, v, c, n, Ts, e, rfl, hc, G, he, S, hv, q⟩ := h
    refine ⟨_, pss_cons (ps_set (i := 2) sc_run_to.nd rfl (Or.inl rfl) (d_tup da_nil))
      (pss_cons (ps_while PassesOwn.never (pt_cmpR op_notN (pe_sget hr.units (pe_fld (pv 0) rfl) (pv 1)) pe_non (nomark _))
        (pss_cons (ps_asg (pe_sget hr.units (pe_fld (pv 0) rfl) (pv 1)) (pg_tup rfl (pgs_cons (pg_name (i := 1) sc_run_to.nd rfl (Or.inl rfl)) (pgs_cons (pg_name (i := 3) sc_run_to.nd rfl (Or.inl rfl)) pgs_nil))) rfl rfl rfl)
        (pss_one (ps_set (i := 2) sc_run_to.nd rfl (Or.inl rfl) (d_bin op_addAll ov_add (d_tup (da_cons (pd 3) da_nil)) (pd 2))))))
      (pss_one (ps_ret (d_bin op_addAll ov_add (d_tup (da_cons (d_ix (pd 1) d_int) da_nil)) (pd 2))))), ?_⟩
    -- found = ()
    refine ⟨[none, some (encS e.st), none, none], encI [], env_no (env_c hv (env_no (env_no env_nil))), rfl, fun vf H1 s1 df => ?_⟩
    -- while
    have few := G.few hc
    refine ⟨fun m σ H2 => ∃ (e' : Ent) (acc : List Int) (v vf : V) (x : Option V), σ = [some (.ref p), some v, some vf, x] ∧ Same H H2 ∧ Dp K H2 v (encS e'.st) ∧ Dp K H2 vf (encI acc) ∧ e' ∈ Ts.1.ents ∧ e'.pth ++ acc = e.pth ∧ e'.lv = e.lv ∧ m = e'.pth.length,
      ⟨_, e, [], v, vf, none, rfl, s1, hv.same s1, df, he, by simp, rfl, rfl⟩, ?_⟩
    rintro m σ H2 ⟨e', acc, v', vf', x, rfl, s2, dv, dfo, he', hpth, hlv, rfl⟩
    have S2 := S.same s2
    obtain ⟨⟨dx, h1⟩, ⟨kvs, h2, h3⟩, _⟩ := id S2
    obtain ⟨u, hu1, hu2⟩ := (getS_find (s := e'.st) h3).2 e' (mem_find G.nd he')
    -- self.known[state] is not None
    refine ⟨_, rfl, p, C, dx, _, _, rfl, h1, T.cl, T.nK, flds_known _ _ _, _, rfl, d1, e'.st, kvs, u, rfl, dv, h2, hu1, rfl, _, rfl, ?_⟩
    have hlen : e'.pth.length + acc.length = e.pth.length := by rw [← hpth, List.length_append]
    have hlt := G.ln e he
    cases hp : e'.par with
    | none =>
      rw [hp] at hu2
      rw [dp_non hu2]
      refine iteNS (by decide) ?_
      -- return (state[0],) + found
      obtain ⟨g1, g2⟩ := G.pc0 e' he' hp
      refine ⟨[none, some (encS e'.st), some (encI acc), none], encI (e'.st.lv :: acc), env_no (env_c dv (env_c dfo ?_)), ?_, fun vr H3 s3 dr => ?_⟩
      · cases x with
        | none => exact env_no env_nil
        | some x => exact env_no env_nil
      · show f2 gAdd _ _ _ = _
        have e2 : gAdd (.tuple [.int e'.st.lv]) (encI acc) = some (encI (e'.st.lv :: acc)) := gAdd_II [e'.st.lv] acc (by simp; omega)
        simp -implicitDefEqProofs only [f2, fTup, fCons, fNil, fVar, fC, List.getElem?_cons_zero, List.getElem?_cons_succ, Option.join_some, Option.bind_some, Option.map_some, zBig, List.length_cons, List.length_nil, Nat.reduceAdd, Nat.reduceLeDiff, if_true]
        have e3 : gIx (encS e'.st) (.int 0) = some (.int e'.st.lv) := rfl
        rw [e3]
        simp -implicitDefEqProofs only [Option.bind_some, Option.map_some, List.length_cons, List.length_nil, Nat.reduceAdd, Nat.reduceLeDiff, if_true, e2]
      · refine q vr H3 (s2.trans s3) ?_
        rw [← hlv, ← hpth, g1, List.nil_append, g2]
        exact dr
    | some pq =>
      obtain ⟨pq, i⟩ := pq
      rw [hp] at hu2
      obtain ⟨t, us, rfl, ht, du⟩ := dp_tup hu2
      refine iteT ?_
      obtain ⟨e2, g1, g2, g3, g4⟩ := G.pc1 e' he' pq i hp
      refine ⟨fun σ' H' => ∃ (e3 : Ent) (acc : List Int) (v vf : V) (x : Option V), σ' = [some (.ref p), some v, some vf, x] ∧ Same H H' ∧ Dp K H' v (encS e3.st) ∧ Dp K H' vf (encI acc) ∧ e3 ∈ Ts.1.ents ∧ e3.pth ++ acc = e.pth ∧ e3.lv = e.lv ∧ e3.pth.length < e'.pth.length, ?_, ?_⟩
      · rintro σ' H' ⟨e3, acc, v, vf, x, a1, a2, a3, a4, a5, a6, a7, a8⟩
        exact ⟨_, a8, e3, acc, v, vf, x, a1, a2, a3, a4, a5, a6, a7, rfl⟩
      -- state, inflow = self.known[state]
      refine ⟨_, rfl, p, C, dx, _, _, rfl, h1, T.cl, T.nK, flds_known _ _ _, _, rfl, d1, e'.st, kvs, .ref t, rfl, dv, h2, hu1, ?_⟩
      cases du with
      | cons du1 du2 => cases du2 with
        | cons du2 du3 =>
          cases du3
          cases du2
          refine ⟨t, _, rfl, ht, rfl, _, _, rfl, _, _, rfl, rfl, ?_⟩
          -- found = (inflow,) + found
          refine ⟨[none, none, some (encI acc), some (.int i)], encI (i :: acc), env_no (env_no (env_c dfo (env_c (.int i) env_nil))), ?_, fun vr H3 s3 dr => ?_⟩
          · have e2 : gAdd (.tuple [.int i]) (encI acc) = some (encI (i :: acc)) := gAdd_II [i] acc (by simp; omega)
            simp -implicitDefEqProofs only [f2, fTup, fCons, fNil, fVar, fC, List.getElem?_cons_zero, List.getElem?_cons_succ, Option.join_some, Option.bind_some, Option.map_some, zBig, List.length_cons, List.length_nil, Nat.reduceAdd, Nat.reduceLeDiff, if_true, e2]
          · refine ⟨e2, i :: acc, _, vr, _, rfl, s2.trans s3, ?_, dr, g1, ?_, by rw [← g4, hlv], by rw [g3]; simp⟩
            · rw [g2]; exact du1.same s3
            · rw [← hpth, g3]; simp
end
end Pm
set_option maxHeartbeats 4000000
/-! SC: Search.behind -/
namespace Pm
open PySem PySem.Spec PyProof.Rows L2
section
variable {P : Program} {w : World} {K : PySem.W.Frag} {mg : Str → Option Value} {base : Heap} {C : Addr} {H : Hp} {p d1 d2 dx : Addr} {S : Sr}
theorem SeAt.setBusy (h : SeAt P w K C H p d1 d2 S) (z : Int) : SeAt P w K C (L2.upd H p (.ins C dx (putF "busy" (.int z) (flds d1 d2 S.bz)))) p d1 d2 ⟨S.ents, S.runs, z⟩ := by
  have ns := h.noDats
  obtain ⟨n1, n2, n3⟩ := h.ne
  have hk : Kp [p, d1, d2] H (L2.upd H p (.ins C dx (putF "busy" (.int z) (flds d1 d2 S.bz)))) := Kp.upd Kp.refl (by simp)
  obtain ⟨⟨dx', h1⟩, ⟨kvs, h2, h4⟩, ⟨rvs, h3, h5⟩⟩ := h
  have np : NoSeq (H p) := (ns p (by simp)).1
  refine ⟨⟨dx, by rw [flds_put]; exact upd_same⟩, ⟨kvs, h2.upd np n1.symm, Paired.mapP h4 fun q x r => ⟨r.1, r.2.kp hk ns⟩⟩, ⟨rvs, by rw [upd_ne n2.symm]; exact h3, Paired.mapP h5 fun q x r => ⟨r.1, r.2.1, r.2.2.kp hk ns⟩⟩⟩
theorem SeAt.addRun (h : SeAt P w K C H p d1 d2 S) {rvs : List (Key × V)} (hd : H d2 = some (.dK rvs)) {r : Rs} (hr : isWord r = true) (hn : hasR S.runs r = false) {v : V} {lv : Int} {pth : List Int} (hv : Dp K H v (encI (lv :: pth))) :
    SeAt P w K C (L2.upd H d2 (.dK (putK rvs (Sum.inr (wordOf r) : Key) v))) p d1 d2 ⟨S.ents, S.runs ++ [(r, lv, pth)], S.bz⟩ := by
  have ns := h.noDats
  obtain ⟨n1, n2, n3⟩ := h.ne
  have hk : Kp [p, d1, d2] H (L2.upd H d2 (.dK (putK rvs (Sum.inr (wordOf r) : Key) v))) := Kp.upd Kp.refl (by simp)
  obtain ⟨⟨dx', h1⟩, ⟨kvs, h2, h4⟩, ⟨rvs', h3, h5⟩⟩ := h
  rw [hd] at h3
  cases h3
  have nd : NoSeq (H d2) := (ns d2 (by simp)).1
  have e : valV rvs (Sum.inr (wordOf r) : Key) = none := by
    have := valV_find hr h5
    rw [hn] at this
    simpa using this
  rw [putK_new _ e] at hk ⊢
  refine ⟨⟨dx', by rw [upd_ne n2]; exact h1⟩, ⟨kvs, h2.upd nd n3, Paired.mapP h4 fun q x r => ⟨r.1, r.2.kp hk ns⟩⟩, ⟨_, upd_same, ?_⟩⟩
  exact paired_append (Paired.mapP h5 fun q x r => ⟨r.1, r.2.1, r.2.2.kp hk ns⟩) ⟨rfl, hr, hv.kp hk ns⟩
theorem SeAt.addEnt (h : SeAt P w K C H p d1 d2 S) {kvs : List (Sst × V)} (hp : Paired (EntR K H) kvs S.ents) {φ : Heap → Prop} {v : V} {t : Sst} {o : Option (Sst × Int)} {lv : Int} {pth : List Int} (hd : DSt P w K (L2.upd H d1 (.ext φ)) d1 (kvs ++ [(t, v)])) (hv : Dp K H v (encPar o)) :
    SeAt P w K C (L2.upd H d1 (.ext φ)) p d1 d2 ⟨S.ents ++ [⟨t, o, lv, pth⟩], S.runs, S.bz⟩ := by
  have ns := h.noDats
  obtain ⟨n1, n2, n3⟩ := h.ne
  have hk : Kp [p, d1, d2] H (L2.upd H d1 (.ext φ)) := Kp.upd Kp.refl (by simp)
  obtain ⟨⟨dx', h1⟩, _, ⟨rvs, h3, h5⟩⟩ := h
  refine ⟨⟨dx', by rw [upd_ne n1]; exact h1⟩, ⟨_, hd, ?_⟩, ⟨rvs, by rw [upd_ne n3.symm]; exact h3, Paired.mapP h5 fun q x r => ⟨r.1, r.2.1, r.2.2.kp hk ns⟩⟩⟩
  exact paired_append (Paired.mapP hp fun q x r => ⟨r.1, r.2.kp hk ns⟩) ⟨rfl, hv.kp hk ns⟩
def bzS (w : Wl) (e : Ent) (z : Int) : Int := if busy w e.st > z then busy w e.st else z
theorem one_word {w : Wl} {e : Ent} {i : Int} {T : Sr × List Sst} {r : Rs} (hr : isWord r = true) (h : beatS w e.st i = r) : one w e i T = if hasR T.1.runs r = true then (⟨T.1.ents, T.1.runs, bzS w e T.1.bz⟩, T.2) else (⟨T.1.ents, T.1.runs ++ [(r, e.lv, e.pth ++ [i])], bzS w e T.1.bz⟩, T.2) := by
  unfold one
  rw [h]
  cases r with
  | over => rfl
  | dry => rfl
  | st s => cases hr
theorem one_st {w : Wl} {e : Ent} {i : Int} {T : Sr × List Sst} {t : Sst} (h : beatS w e.st i = .st t) : one w e i T = if (findE T.1.ents t).isSome = true then (⟨T.1.ents, T.1.runs, bzS w e T.1.bz⟩, T.2) else (⟨T.1.ents ++ [⟨t, some (e.st, i), e.lv, e.pth ++ [i]⟩], T.1.runs, bzS w e T.1.bz⟩, T.2 ++ [t]) := by
  unfold one
  rw [h]
  rfl
theorem behindM_take {w : Wl} {e : Ent} {is : List Int} {T : Sr × List Sst} {k : Nat} {i : Int} (h : is[k]? = some i) : behindM w e (is.take (k + 1)) T = one w e i (behindM w e (is.take k) T) := by
  unfold behindM
  rw [List.take_add_one, h, List.foldl_append]
  rfl
def spBehind (P : Program) (w : World) (C : Addr) (K : PySem.W.Frag) : Sp := fun vs H Q _ => ∃ (p d1 d2 : Addr) (vc v : V) (c : Cl) (n : Option Int) (T : Sr × List Sst) (e : Ent), vs = [.ref p, vc, v] ∧ SmC c ∧ Good c n T ∧ e ∈ T.1.ents ∧ SeAt P w K C H p d1 d2 T.1 ∧ Dp K H vc (encC c) ∧ Dp K H v (encS e.st) ∧
  ∀ l ws H', H l = none → Kp [p, d1, d2] H H' → SeAt P w K C H' p d1 d2 (behindM c.w e (inf c.lo c.hi) (T.1, [])).1 → H' l = some (.lst ws) → DpAll K H' ws ((behindM c.w e (inf c.lo c.hi) (T.1, [])).2.map encS) → Q (.ref l) H'
/-- over a list: the item is that of every list which stands there -/
theorem for_listK {K : PySem.W.Frag} {a : Addr} {xs : List V} {g : TG} {tb : TS} {D : Ends} {σ : L2.St} {H : Hp} (Pv : Nat → L2.St → Hp → Prop) (h0 : Pv 0 σ H) (hl : ∀ i σ H, i ≤ xs.length → Pv i σ H → SqL K H a xs)
    (hs : ∀ i x σ H, xs[i]? = some x → (∀ ys, SqL K H a ys → ys[i]? = some x) → Pv i σ H → g x σ H fun σ2 H2 => tb { D with nx := Pv (i + 1), ct := Pv (i + 1), bk := D.nx } σ2 H2) (hd : ∀ σ H, Pv xs.length σ H → D.nx σ H) :
    ∃ W : Nat → Nat → L2.St → Hp → Prop, (∃ m, W 0 m σ H) ∧ ∀ i m σ H, W i m σ H →
      ((Itl K a).stop i H ∧ D.nx σ H) ∨ ((Itl K a).go i H ∧ ∃ N : L2.St → Hp → Prop, (∀ σ' H', N σ' H' → ∃ m', m' < m ∧ W (i + 1) m' σ' H') ∧ ∀ x H', (Itl K a).yld i H x H' → g x σ H' fun σ2 H2 => tb { D with nx := N, ct := N, bk := D.nx } σ2 H2) := by
  refine ⟨fun i m σ H => m = xs.length - i ∧ i ≤ xs.length ∧ Pv i σ H, ⟨xs.length, by simp, Nat.zero_le _, h0⟩, ?_⟩
  rintro i m σ H ⟨rfl, hi, p⟩
  have q := hl i σ H hi p
  by_cases hlt : i < xs.length
  · refine .inr ⟨⟨xs, xs[i], q, by simp [hlt]⟩, Pv (i + 1), fun σ' H' p' => ⟨xs.length - (i + 1), by omega, rfl, hlt, p'⟩, fun x H' y => ?_⟩
    obtain ⟨e, y⟩ := y
    subst e
    exact hs i x σ _ (y xs q) y p
  · have e : i = xs.length := by omega
    subst e
    exact .inl ⟨⟨xs, q, Nat.le_refl _⟩, hd σ H p⟩
theorem dpa3 {ds : List V} {a b c : PyData} (h : DpAll K H ds [a, b, c]) : ∃ x y z, ds = [x, y, z] ∧ Dp K H x a ∧ Dp K H y b ∧ Dp K H z c := by
  cases h with
  | cons h1 h => cases h with
    | cons h2 h => cases h with
      | cons h3 h =>
        cases h
        exact ⟨_, _, _, rfl, h1, h2, h3⟩
theorem sql_upd {a l : Addr} {xs : List V} {o : HO} (h : a ≠ l) (q : SqL K H a xs) : SqL K (L2.upd H l o) a xs := by
  rcases q with (q | ⟨u, q⟩) | q
  · exact .inl (.inl (by rw [upd_ne h]; exact q))
  · exact .inl (.inr ⟨u, by rw [upd_ne h]; exact q⟩)
  · exact .inr q
theorem Good.bz {c : Cl} {n : Option Int} {T : Sr × List Sst} (h : Good c n T) (b : Int) : Good c n (⟨T.1.ents, T.1.runs, b⟩, T.2) := ⟨h.nd, h.sm, h.pc0, h.pc1, h.ln, h.rw, h.rn, h.ly, h.lyn⟩
theorem sc_behind : FnScope ["self", "claim", "state", "found", "inflow", "fresh", "busy"] ["self", "claim", "state"] (defScope sBehind) := ⟨rfl, rfl, rfl, by decide +kernel, rfl, by decide +kernel, by decide +kernel⟩
theorem ok_behind {f fr : Addr} {fd fdr : FuncData} (F : Fun K "behind" "Search.behind" sBehind f fd) (T : Tx mg) (Z : TSe K mg C) (D_beats_of : FnD P w K mg base 3 "beats_of" g_beats_of) (mR : Meth K C "run_to" fr) (GR : FnOk P w K mg base CX0 1 fr fdr ["self", "state"] (spRun P w C K)) (bR : Binds K fdr ["self", "state"] []) :
    FnOk P w K mg base CX0 4 f fd ["self", "claim", "state"] (spBehind P w C K) := by
  refine F.ok sc_behind (fun vs H Q E h => ?_) (fun cdv A outer s H vs Q E hr h => ?_)
  · obtain ⟨p, d1, d2, vc, v, c, n, T, e, rfl, _⟩ := h
    rfl
  · obtain ⟨p, d1, d2, vc, v, c, n, Ts, e, rfl, hc, G, he, S, dc, dv, q⟩ := h
    refine ⟨_, pss_cons (ps_set (i := 3) sc_behind.nd rfl (Or.inl rfl) (pe_lst pa_nil))
      (pss_cons (ps_for PassesOwn.never rfl (pi_list (d_call D_beats_of (hr.mono (by decide)) (da_cons (d_ix (pd 1) d_int) (da_cons (pd 2) (da_cons (d_ix (pd 1) d_int) da_nil)))))
          (pg_tup rfl (pgs_cons (pg_name (i := 4) sc_behind.nd rfl (Or.inl rfl)) (pgs_cons (pg_name (i := 5) sc_behind.nd rfl (Or.inl rfl)) (pgs_cons (pg_name (i := 6) sc_behind.nd rfl (Or.inl rfl)) pgs_nil))))
        (pss_cons (ps_fld (pv 0) (pe_callB (call_max2 rfl) (by rfl) T.b_max bt_max (pa_cons (pe_fld (pv 0) rfl) (pa_cons (pv 6) pa_nil))) rfl)
        (pss_one (ps_if (t_cmp (op_inT hr.u66) ov_in (pd 5) (d_tup (da_cons (d_gstr T.c_OVER) (da_cons (d_gstr T.c_DRY) da_nil))) (by rfl))
          (pss_one (ps_if (pt_cmp (pc_dnotin (hu_of hr) (pv 5) (pe_fld (pv 0) rfl)))
            (pss_one (ps_dput (hu_of hr) (pe_fld (pv 0) rfl) (pv 5) (pe_op op_addAll (pe_meth (pv 0) Z.cl mR GR (hr.mono (by decide)) bR .nil pass0 (pa_cons (pv 2) pa_nil)) (d_tup (da_cons (pd 4) da_nil))) rfl)) pss_nil))
          (pss_one (ps_if (pt_cmpR (op_notInS hr.units) (pv 5) (pe_fld (pv 0) rfl) (by rfl))
            (pss_cons (ps_sput hr.units (pe_fld (pv 0) rfl) (pv 5) (d_tup (da_cons (pd 2) (da_cons (pd 4) da_nil))) rfl)
            (pss_one (ps_expr (pe_bm PySem.F.plainAttrs_list PySem.F.slot_list_append PySem.F.type_list_append mt_append (pv 3) (pa_cons (pv 5) pa_nil))))) pss_nil))))))
      (pss_one (ps_ret (pv 3)))), ?_⟩
    -- found = []
    refine ⟨(by show 0 ≤ sizeLine; exact Nat.zero_le _), fun l hl => ?_⟩
    have S0 : SeAt P w K C (upd H l (.lst [])) p d1 d2 Ts.1 := S.same (Same.new hl)
    have hlS : l ∉ [p, d1, d2] := S.out hl
    -- beats_of(claim[0], state, claim[1])
    have hw := hc.w
    obtain ⟨i1, i2, i3⟩ := hc.infl
    have sml := G.sm e he
    have eB := g_beats_of_eq hw sml.shp i1 (by omega) (by omega) i3
    have lenI : (inf c.lo c.hi).length ≤ 301 := by rw [inf_length]; omega
    have few := G.few hc
    refine ⟨[none, some (encC c), some (encS e.st), none, none, none, none], .list ((inf c.lo c.hi).map (encB c.w e.st)), env_no (env_c (dc.same (Same.new hl)) (env_c (dv.same (Same.new hl)) (env_no (env_no (env_no (env_no env_nil)))))), ?_, fun vB H1 s1 dB => ?_⟩
    · show fCall g_beats_of _ _ = some (.list ((inf c.lo c.hi).map (encB c.w e.st)))
      simp -implicitDefEqProofs only [fCall, f2, fCons, fNil, fVar, fC, List.getElem?_cons_zero, List.getElem?_cons_succ, Option.join_some, Option.bind_some, Option.map_some, ixC0, ixC1, eB]
    obtain ⟨a, vsB, rfl, hB, dB⟩ := dp_lst dB
    have lenB : vsB.length = (inf c.lo c.hi).length := by rw [dB.length, List.length_map]
    have hl1 : H1 l = some (.lst []) := s1 _ _ upd_same
    have sH1 : Same H H1 := (Same.new hl).trans s1
    -- the walk
    let Tk : Nat → Sr × List Sst := fun k => behindM c.w e ((inf c.lo c.hi).take k) (Ts.1, [])
    have Tk0 : Tk 0 = (Ts.1, []) := by simp only [Tk, List.take_zero]; rfl
    have gk : ∀ k, e ∈ (Tk k).1.ents ∧ Good c n (Tk k) := fun k => by
      refine ⟨?_, G.lay0.behind hc he _ fun i hi => List.mem_of_mem_take hi⟩
      obtain ⟨⟨more, m1, _⟩, _⟩ := behindM_grow (w := c.w) (e := e) ((inf c.lo c.hi).take k) (Ts.1, [])
      show e ∈ (behindM c.w e ((inf c.lo c.hi).take k) (Ts.1, [])).1.ents
      rw [m1]
      exact List.mem_append_left _ he
    refine ⟨a, rfl, ⟨_, hB⟩, for_listK (xs := vsB) (fun k σ H2 => ∃ (ws : List V) (x4 x5 x6 : Option V), σ = [some (.ref p), some vc, some v, some (.ref l), x4, x5, x6] ∧ Kp [p, d1, d2] H H2 ∧ SeAt P w K C H2 p d1 d2 (Tk k).1 ∧ H2 l = some (.lst ws) ∧ DpAll K H2 ws ((Tk k).2.map encS) ∧ SqL K H2 a vsB ∧ DpAll K H2 vsB ((inf c.lo c.hi).map (encB c.w e.st)) ∧ (k = 0 ∧ ws = [] ∨ a ≠ l))
      ⟨[], none, none, none, rfl, sH1.kp, by rw [Tk0]; exact S0.same s1, hl1, by rw [Tk0]; exact .nil, hB, dB, .inl ⟨rfl, rfl⟩⟩ (fun i σ H2 _ ⟨_, _, _, _, _, _, _, _, _, h, _⟩ => h) ?_ ?_⟩
    · rintro k x σ H2 hx hy ⟨ws, x4, x5, x6, rfl, kp, Sk, hws, dws, hB2, dB2, hal⟩
      have al : a ≠ l := by
        rcases hal with ⟨rfl, rfl⟩ | hal
        · intro z
          subst z
          have := hy [] (SqL.of hws)
          simp at this
        · exact hal
      obtain ⟨d, hd, dx⟩ := dB2.get' hx
      rw [List.getElem?_map] at hd
      obtain ⟨i, hi, rfl⟩ := Option.map_eq_some_iff.mp hd
      have him : i ∈ inf c.lo c.hi := List.mem_of_getElem? hi
      have hk : k < (inf c.lo c.hi).length := (List.getElem?_eq_some_iff.mp hi).1
      have Tk1 : Tk (k + 1) = one c.w e i (Tk k) := behindM_take hi
      obtain ⟨gke, gk'⟩ := gk k
      have hfewk := gk'.few hc
      have hfewk1 := (gk (k + 1)).2.few hc
      obtain ⟨t, us, rfl, ht, du⟩ := dp_tup dx
      obtain ⟨xi, y, xb, rfl, u1, u2, u3⟩ := dpa3 du
      obtain rfl := dp_int u1
      obtain rfl := dp_int u3
      have hwsl : ws.length ≤ 14580 := by
        have h5 := dws.length
        rw [List.length_map] at h5
        have h6 := gk'.lyn
        omega
      · · · refine ⟨t, _, rfl, ht, rfl, _, _, rfl, _, _, rfl, _, _, rfl, rfl, ?_⟩
            -- self.busy = max(self.busy, busy)
            obtain ⟨⟨dx, h1⟩, _, _⟩ := id Sk
            refine ⟨_, rfl, p, C, dx, _, _, rfl, h1, Z.cl, Z.nB, flds_busy _ _ _, _, rfl, _, _, rfl, _, rfl, p, C, dx, _, rfl, h1, Z.cl, Z.nB, flds_len _ _ _, ?_⟩
            have nsk := Sk.noDats
            have Sk2 := Sk.setBusy (dx := dx) (bzS c.w e (Tk k).1.bz)
            have hk2 : Kp [p, d1, d2] H2 (L2.upd H2 p (.ins C dx (putF "busy" (.int (bzS c.w e (Tk k).1.bz)) (flds d1 d2 (Tk k).1.bz)))) := Kp.upd Kp.refl (by simp)
            have ws2 : L2.upd H2 p (.ins C dx (putF "busy" (.int (bzS c.w e (Tk k).1.bz)) (flds d1 d2 (Tk k).1.bz))) l = some (.lst ws) := hk2 l _ hws hlS
            generalize hH3 : L2.upd H2 p (HO.ins C dx (putF "busy" (V.int (if busy c.w e.st > (Tk k).1.bz then busy c.w e.st else (Tk k).1.bz)) (flds d1 d2 (Tk k).1.bz))) = H3
            have hH3' : L2.upd H2 p (.ins C dx (putF "busy" (.int (bzS c.w e (Tk k).1.bz)) (flds d1 d2 (Tk k).1.bz))) = H3 := hH3
            rw [hH3'] at Sk2 hk2 ws2
            clear hH3 hH3'
            have kp3 : Kp [p, d1, d2] H H3 := kp.trans hk2
            have nH := S.noDats
            have hB3 := hB2.kp hk2 nsk
            have dB3 := dB2.kp hk2 nsk
            have dws3 := dws.kp hk2 nsk
            have dy3 := u2.kp hk2 nsk
            have dv3 := dv.kp kp3 nH
            generalize beq : beatS c.w e.st i = r at dy3
            -- if fresh in (OVER, DRY)
            refine ⟨[none, none, none, none, none, some (encR r), none], isWord r, env_no (env_no (env_no (env_no (env_no (env_c dy3 (env_no env_nil)))))), ?_, fun H4 s4 => ?_⟩
            · simp -implicitDefEqProofs only [fT, f2, fTup, fCons, fNil, fVar, fC, List.getElem?_cons_zero, List.getElem?_cons_succ, Option.join_some, Option.bind_some, Option.map_some, zBig, List.length_cons, List.length_nil, Nat.reduceAdd, Nat.reduceLeDiff, if_true]
              have e9 := in_words r
              rw [over_in, e9]
              rfl
            have Sk4 := Sk2.same s4
            have n4 := Sk4.noDats
            obtain ⟨⟨dx4, g1⟩, ⟨kvs, g2, g3⟩, ⟨rvs, g4, g5⟩⟩ := id Sk4
            have ws4 := s4 _ _ ws2
            cases hw2 : isWord r with
            | true =>
              refine iteT ?_
              have hys : y = .str (wordOf r) := dp_str (by rw [← encR_word hw2]; exact dy3)
              subst hys
              -- if fresh not in self.runs
              refine ⟨_, rfl, _, rfl, p, C, dx4, _, _, rfl, g1, Z.cl, Z.nR, flds_runs _ _ _, d2, _, rfl, DGet.k (k := Sum.inr (wordOf r)) g4, _, rfl, ?_⟩
              have hv := valV_find hw2 g5
              cases hasq : hasR (Tk k).1.runs r with
              | true =>
                rw [hv, hasq]
                refine iteF ?_
                refine ⟨ws, _, _, _, rfl, kp3.trans s4.kp, ?_, ws4, ?_, s4.seq hB3, dB3.same s4, .inr al⟩
                · rw [Tk1, one_word hw2 beq, hasq]
                  exact Sk4
                · rw [Tk1, one_word hw2 beq, hasq]
                  exact dws3.same s4
              | false =>
                rw [hv, hasq]
                refine iteT ?_
                -- self.runs[fresh] = self.run_to(state) + (inflow,)
                refine ⟨_, rfl, p, dx4, _, rfl, g1, flds_no _ _ _ (by decide +kernel) (by decide +kernel) (by decide +kernel), _, rfl, p, d1, d2, v, c, n, (⟨(Tk k).1.ents, (Tk k).1.runs, bzS c.w e (Tk k).1.bz⟩, (Tk k).2), e, rfl, hc, gk'.bz _, gke, Sk4, dv3.same s4, fun vr H5 s5 dr => ?_⟩
                refine ⟨[none, none, none, none, some (.int i), none, none], encI [i], env_no (env_no (env_no (env_no (env_c (.int i) (env_no (env_no env_nil)))))), rfl, fun v2 H6 s6 d6 => ?_⟩
                have hln := gk'.ln e gke
                refine ov_add _ _ _ _ _ _ _ (dr.same s6) d6 (gAdd_II (e.lv :: e.pth) [i] (by simp; omega)) fun v7 H7 s7 d7 => ?_
                have s47 := (s5.trans s6).trans s7
                have Sk7 := Sk4.same s47
                refine ⟨_, rfl, p, C, dx4, _, _, rfl, s47 _ _ g1, Z.cl, Z.nR, flds_runs _ _ _, _, rfl, d2, _, rfl, DPut.k (k := Sum.inr (wordOf r)) (s47 _ _ g4) ?_, ?_⟩
                · rw [Paired.length g5]
                  exact small1000 (Nat.le_trans gk'.runs2 (by decide))
                · have Sk8 := Sk7.addRun (s47 _ _ g4) hw2 hasq d7
                  have n7 := Sk7.noDats
                  have k8 : Kp [p, d1, d2] H7 (L2.upd H7 d2 (.dK (putK rvs (Sum.inr (wordOf r) : Key) v7))) := Kp.upd Kp.refl (by simp)
                  refine ⟨ws, _, _, _, rfl, ((kp3.trans s4.kp).trans s47.kp).trans k8, ?_, k8 _ _ (s47 _ _ ws4) hlS, ?_, ((s47.seq (s4.seq hB3)).kp k8 n7), ((dB3.same s4).same s47).kp k8 n7, .inr al⟩
                  · rw [Tk1, one_word hw2 beq, hasq]
                    exact Sk8
                  · rw [Tk1, one_word hw2 beq, hasq]
                    exact ((dws3.same s4).same s47).kp k8 n7
            | false =>
              refine iteF ?_
              cases r with
              | over => cases hw2
              | dry => cases hw2
              | st t =>
                -- elif fresh not in self.known
                have hf := getS_find (s := t) g3
                refine ⟨_, rfl, _, rfl, p, C, dx4, _, _, rfl, g1, Z.cl, Z.nK, flds_known _ _ _, d1, t, kvs, rfl, dy3.same s4, g2, _, rfl, ?_⟩
                cases hq : findE (Tk k).1.ents t with
                | some e' =>
                  obtain ⟨u, hu, _⟩ := hf.2 e' hq
                  rw [hu]
                  refine iteF ?_
                  refine ⟨ws, _, _, _, rfl, kp3.trans s4.kp, ?_, ws4, ?_, s4.seq hB3, dB3.same s4, .inr al⟩
                  · rw [Tk1, one_st beq, hq]
                    exact Sk4
                  · rw [Tk1, one_st beq, hq]
                    exact dws3.same s4
                | none =>
                  have hg := hf.1 hq
                  rw [hg]
                  refine iteT ?_
                  -- self.known[fresh] = (state, inflow)
                  refine ⟨[none, none, some (encS e.st), none, some (.int i), none, none], encPar (some (e.st, i)), env_no (env_no (env_c (dv3.same s4) (env_no (env_c (.int i) (env_no (env_no env_nil)))))), rfl, fun v5 H5 s5 d5 => ?_⟩
                  have Sk5 := Sk4.same s5
                  have g35 : Paired (EntR K H5) kvs (Tk k).1.ents := Paired.mapP g3 fun q x r => ⟨r.1, r.2.same s5⟩
                  refine ⟨_, rfl, p, C, dx4, _, _, rfl, s5 _ _ g1, Z.cl, Z.nK, flds_known _ _ _, _, rfl, d1, t, kvs, rfl, g2.same s5, (dy3.same s4).same s5, hg, ?_, fun φ hφ => ?_⟩
                  · rw [Paired.length g3]
                    exact Nat.lt_of_le_of_lt hfewk (by rw [sizeLine_eq]; decide)
                  · have Sk6 := Sk5.addEnt (t := t) (o := some (e.st, i)) (lv := e.lv) (pth := e.pth ++ [i]) g35 hφ d5
                    have n5 := Sk5.noDats
                    have k6 : Kp [p, d1, d2] H5 (L2.upd H5 d1 (.ext φ)) := Kp.upd Kp.refl (by simp)
                    have ws6 := k6 _ _ (s5 _ _ ws4) hlS
                    -- found.append(fresh)
                    refine ⟨_, rfl, .inl ⟨rfl, _, SqL.of ws6⟩, _, rfl, l, ws, _, rfl, rfl, ws6, Nat.lt_of_le_of_lt hwsl (by rw [sizeLine_eq]; decide), ?_⟩
                    have ns : NoSeq ((L2.upd H5 d1 (.ext φ)) l) := by rw [ws6]; exact noSeq_lst
                    have hB6 := (s5.seq (s4.seq hB3)).kp k6 n5
                    have dB6 := ((dB3.same s4).same s5).kp k6 n5
                    have dws6 := ((dws3.same s4).same s5).kp k6 n5
                    have dy6 := ((dy3.same s4).same s5).kp k6 n5
                    have kl : Kp [l] (L2.upd H5 d1 (.ext φ)) (L2.upd (L2.upd H5 d1 (.ext φ)) l (.lst (ws ++ [y]))) := Kp.upd Kp.refl (by simp)
                    refine ⟨ws ++ [y], _, _, _, rfl, ?_, ?_, upd_same, ?_, sql_upd al hB6, DpAll.upd ns dB6 (noL_map (noL_B c.w e.st) _), .inr al⟩
                    · intro b o eb nb
                      have e1 := (((kp3.trans s4.kp).trans s5.kp).trans k6) b o eb nb
                      have : b ≠ l := fun z => by rw [z, hl] at eb; cases eb
                      rw [upd_ne this]
                      exact e1
                    · rw [Tk1, one_st beq, hq]
                      exact Sk6.upd hlS ns
                    · rw [Tk1, one_st beq, hq]
                      show DpAll K _ (ws ++ [y]) (((Tk k).2 ++ [t]).map encS)
                      rw [List.map_append]
                      exact (DpAll.upd ns dws6 (noL_map noL_S _)).append (.cons (Dp.upd ns dy6 (noL_S t)) .nil)
    · rintro σ H2 ⟨ws, x4, x5, x6, rfl, kp, Sk, hws, dws, _⟩
      -- return found
      refine ⟨_, rfl, ?_⟩
      have e0 : Tk vsB.length = behindM c.w e (inf c.lo c.hi) (Ts.1, []) := by
        show behindM c.w e ((inf c.lo c.hi).take vsB.length) (Ts.1, []) = _
        rw [lenB, List.take_length]
      rw [e0] at Sk dws
      exact q l ws H2 hl kp Sk hws dws
end
end Pm
set_option maxHeartbeats 4000000
/-! SD: {state: v for state in ..} over data; Search.__init__ -/
namespace Pm
open PySem PySem.Spec PyProof.Rows L2
section
variable {X : Cx}
/-- a dict of the states of a walk, all with one value -/
def tDct (P : Program) (w : World) (K : PySem.W.Frag) (fi : DE → Option (List PyData)) (vc : V) (j : Nat) : TE := fun σ H Q => ∃ (ρ : DE) (sts : List Sst), j < ρ.length ∧ EnvD K H σ ρ ∧ fi ρ = some (sts.map encS) ∧ sts.Nodup ∧ sts.length ≤ zBig ∧
  ∀ D H', Same H H' → H D = none → DSt P w K H' D (sts.map fun s => (s, vc)) → Q (.ref D) H'
theorem getS_not {sts : List Sst} {vc : V} {s : Sst} (h : s ∉ sts) : getS (sts.map fun s => (s, vc)) s = none := by
  unfold getS
  rw [Option.map_eq_none_iff, List.find?_eq_none]
  intro x hx
  obtain ⟨y, hy, rfl⟩ := List.mem_map.mp hx
  simp
  intro e
  exact h (e ▸ hy)
theorem d_dcS {j : Nat} {x : Str} {px pk : Pos} {vx iter : Expr} {scope : Scope} {pos : Pos} {fi : DE → Option (List PyData)} {vc : V} (hu : X.A.units + 64 < cLine) (hN : X.N.Nodup) (hi : PI X (.Name x px) iter (iD X.K fi)) (ok : BlkOk X.N X.env.scope scope [(x, j)])
    (hg : ∀ (s : Shared) (H : Hp) (C : Addr) (cl : List (Str × Addr)) (fp : List Addr), PG (X.blk s H scope (compEnvC scope cl C X.env) fp) (.Name x px) (gName j))
    (hk : ∀ (s : Shared) (H : Hp) (C : Addr) (cl : List (Str × Addr)) (fp : List Addr), PE (X.blk s H scope (compEnvC scope cl C X.env) fp) (.Name x pk) (tVar j))
    (he : ∀ (s : Shared) (H : Hp) (C : Addr) (cl : List (Str × Addr)) (fp : List Addr), PE (X.blk s H scope (compEnvC scope cl C X.env) fp) vx (tC vc)) (hc : X.calm = true := by rfl) (hs : ∀ x, foldedSetIterable iter X.env x = pure x := by intro _; rfl) :
    PE X (.DictComp (.Name x pk) vx [⟨.Name x px, iter, [], 0⟩] scope pos) (tDct X.prog X.w X.K fi vc j) := (pe_dcS hu hN hi ok hg hk he hc hs).imp fun σ H Q ⟨ρ, sts, hj, hen, hf, hnd, hz, q⟩ => by
  refine ⟨ρ, sts.map encS, hen, hf, fun J H1 s1 W D hD hDm => ?_⟩
  have hDH : H D = none := s1.free hD
  have sD : ∀ φ, Same H1 (upd H1 D (.ext φ)) := fun φ => Same.new hD
  have D0 : DSt X.prog X.w X.K (upd H1 D (.ext (rawD X.prog X.w D []))) D [] := ⟨Nat.zero_le _, hDm, [], .nil, upd_same⟩
  refine ⟨fun i m H' => m = (sts.map encS).length - i ∧ i ≤ (sts.map encS).length ∧ Same H1 H' ∧ DSt X.prog X.w X.K H' D ((sts.take i).map fun s => (s, vc)), ⟨_, rfl, Nat.zero_le _, sD _, by rw [List.take_zero]; exact D0⟩, ?_⟩
  rintro i m H' ⟨rfl, hi, s2, d2⟩
  by_cases hlt : i < (sts.map encS).length
  · have hlt' : i < sts.length := by simpa using hlt
    refine .inr ⟨W.go i H' s2 hlt, fun H3 => i + 1 ≤ (sts.map encS).length ∧ Same H1 H3 ∧ DSt X.prog X.w X.K H3 D ((sts.take (i + 1)).map fun s => (s, vc)), fun H3 ⟨a, b, c⟩ => ⟨_, by omega, rfl, a, b, c⟩, fun x' H3 y => ?_⟩
    obtain ⟨s3, _, dx, h6, h7⟩ := W.yld i H' x' H3 s2 y hlt
    rw [List.getElem?_map, List.getElem?_eq_getElem hlt'] at h6
    cases h6
    have hlen : j < (L2.wipe σ [j]).length := by
      rw [L2.wipe_length, hen.1]
      exact hj
    refine ⟨?_, x', ?_, ?_⟩
    · show L2.wipe ((L2.wipe σ [j]).set j (some x')) [j] = L2.wipe σ [j]
      rw [wipe_set (by simp), wipe_wipe]
    · show ((L2.wipe σ [j]).set j (some x'))[j]? = _
      rw [List.getElem?_set_self hlen]
    · have hnm : sts[i] ∉ sts.take i := by
        intro hm
        obtain ⟨k, hk, e⟩ := List.mem_iff_getElem.mp hm
        have hk' : k < i := by
          rw [List.length_take] at hk
          omega
        rw [List.getElem_take] at e
        exact absurd ((List.getElem_inj hnd).mp e) (by omega)
      refine ⟨_, sts[i], d2.same s3, h7, getS_not hnm, ?_, fun φ hφ => ?_⟩
      · rw [List.length_map, List.length_take]
        exact Nat.lt_of_le_of_lt (Nat.min_le_left _ _) (Nat.lt_of_lt_of_le hlt' (zBig_le hz))
      · refine ⟨hlt, (s2.trans s3).mut hD, ?_⟩
        rw [List.take_add_one, List.getElem?_eq_getElem hlt', List.map_append]
        exact hφ
  · have e : i = (sts.map encS).length := by omega
    subst e
    refine .inl ⟨W.stop H' s2, q D H' (s1.trans s2) hDH ?_⟩
    rw [List.length_map, List.take_length] at d2
    exact d2
end
end Pm
set_option maxHeartbeats 4000000
/-! SE: Search.__init__ -/
namespace Pm
open PySem PySem.Spec PyProof.Rows L2

/-! ### plain -/
theorem behindM_acc (w : Wl) (e : Ent) : ∀ (is : List Int) (S : Sr) (L : List Sst), behindM w e is (S, L) = ((behindM w e is (S, [])).1, L ++ (behindM w e is (S, [])).2)
  | [], S, L => by simp [behindM]
  | i :: is, S, L => by
    have h1 : one w e i (S, L) = ((one w e i (S, [])).1, L ++ (one w e i (S, [])).2) := by
      unfold one
      cases beatS w e.st i <;> simp only <;> split <;> simp
    have e1 : ∀ T, behindM w e (i :: is) T = behindM w e is (one w e i T) := fun T => rfl
    rw [e1, e1, h1, behindM_acc w e is _ (L ++ (one w e i (S, [])).2)]
    have h2 := behindM_acc w e is (one w e i (S, [])).1 (one w e i (S, [])).2
    rw [show ((one w e i (S, [])).1, (one w e i (S, [])).2) = one w e i (S, []) from rfl] at h2
    rw [h2, List.append_assoc]
theorem layM_nil (w : Wl) (is : List Int) (T : Sr × List Sst) : layM w is [] T = T := by unfold layM; rfl
theorem layM_some {w : Wl} {is : List Int} {s : Sst} {r : List Sst} {T : Sr × List Sst} {e : Ent} (h : findE T.1.ents s = some e) : layM w is (s :: r) T = layM w is r (behindM w e is T) := by
  rw [layM, h]
theorem layM_none {w : Wl} {is : List Int} {s : Sst} {r : List Sst} {T : Sr × List Sst} (h : findE T.1.ents s = none) : layM w is (s :: r) T = layM w is r T := by
  rw [layM, h]
theorem layM_append (w : Wl) (is : List Int) : ∀ (a b : List Sst) (T : Sr × List Sst), layM w is (a ++ b) T = layM w is b (layM w is a T)
  | [], b, T => by rw [layM_nil]; rfl
  | s :: a, b, T => by
    rw [List.cons_append]
    cases h : findE T.1.ents s with
    | none => rw [layM_none h, layM_none h, layM_append w is a b T]
    | some e => rw [layM_some h, layM_some h, layM_append w is a b _]
theorem layM_take {w : Wl} {is : List Int} {l : List Sst} {T : Sr × List Sst} {k : Nat} {s : Sst} (h : l[k]? = some s) {e : Ent} (he : findE (layM w is (l.take k) T).1.ents s = some e) :
    layM w is (l.take (k + 1)) T = ((behindM w e is ((layM w is (l.take k) T).1, [])).1, (layM w is (l.take k) T).2 ++ (behindM w e is ((layM w is (l.take k) T).1, [])).2) := by
  rw [List.take_add_one, h, layM_append]
  show layM w is [s] _ = _
  rw [layM_some he, layM_nil]
  exact behindM_acc w e is _ _
theorem Good.lay {c : Cl} (hc : SmC c) {n : Option Int} {T : Sr × List Sst} (h : Good c n T) (k : Nat) : Good c n (layM c.w (inf c.lo c.hi) (T.2.take k) (T.1, [])) := by
  refine layM_inv (w := c.w) (is := inf c.lo c.hi) (Pr := Good c n) _ (T.1, []) h.lay0 fun s hs e T1 hq h1 i hi T2 h2 h3 => ?_
  exact h3.one hc (findE_st h2).2 hi
/-- what is left, at most -/
def mes (T : Sr × List Sst) : Nat := 2 * (14580 - T.1.ents.length) + (if T.2 = [] then 0 else 1)
theorem mes_step {c : Cl} (hc : SmC c) {n : Option Int} {T : Sr × List Sst} (h : Good c n T) (hne : T.2 ≠ []) : mes (stepM c T) < mes T := by
  obtain ⟨⟨more, m1, m2⟩, _⟩ := layM_grow (w := c.w) (is := inf c.lo c.hi) T.2 (T.1, [])
  have h1 := (h.step hc).few hc
  have e1 : (stepM c T).1.ents = T.1.ents ++ more := m1
  have e2 : (stepM c T).2 = more.map (·.st) := by
    show (layM c.w (inf c.lo c.hi) T.2 (T.1, [])).2 = _
    rw [m2]
    rfl
  unfold mes
  rw [if_neg hne]
  rw [e1, List.length_append] at h1 ⊢
  rw [e2]
  cases more with
  | nil => simp
  | cons a r =>
    rw [if_neg (by simp)]
    simp at h1 ⊢
    omega
theorem canLay_map {α : Type} {g : α → PyData} (h : ∀ x, (g x).canLay0 = true) : ∀ xs : List α, PyData.canLayAll0 (xs.map g) = true
  | [] => rfl
  | x :: xs => by
    rw [List.map_cons, PyData.canLayAll0, h x, canLay_map h xs]
    rfl
theorem depth_map {α : Type} {g : α → PyData} {k : Nat} (h : ∀ x, (g x).depth ≤ k) : ∀ xs : List α, PyData.depthAll (xs.map g) ≤ k
  | [] => Nat.zero_le _
  | x :: xs => by
    have h1 := h x
    have h2 := depth_map h xs
    rw [List.map_cons, PyData.depthAll]
    omega
theorem shaped_Ss (xs : List Sst) : SeqAt.shaped (.list (xs.map encS)) = true := by
  have h1 := canLay_map encS_lay xs
  have h2 := depth_map encS_depth xs
  simp [SeqAt.shaped, PyData.canLay0, PyData.depth, h1]
  omega
theorem shaped_Ts (xs : List Sst) : SeqAt.shaped (.tuple (xs.map encS)) = true := by
  have h1 := canLay_map encS_lay xs
  have h2 := depth_map encS_depth xs
  simp [SeqAt.shaped, PyData.canLay0, PyData.depth, h1]
  omega
theorem ne_nil_Ss (xs : List Sst) : gNe (.list (xs.map encS)) (.list []) = some (.bool (!decide (xs = []))) := by
  have h1 : SeqAt.shaped (.list []) = true := by decide +kernel
  unfold gNe
  rw [if_pos ⟨shaped_Ss xs, h1⟩]
  cases xs with
  | nil => simp [PyData.eqv, PyData.eqvAll]
  | cons a r => simp [PyData.eqv, PyData.eqvAll]
section
variable {P : Program} {w : World} {K : PySem.W.Frag} {mg : Str → Option Value} {base : Heap} {C : Addr}
theorem kp_of_list {S : List Addr} {H H' : Hp} {l : Addr} {xs : List V} (h : Kp S H H') (e : H l = some (.lst xs)) (n : NoDats S H) : H' l = some (.lst xs) := h l _ e fun z => (n l z).2 xs e
def spSInit (P : Program) (w : World) (C : Addr) (K : PySem.W.Frag) : Sp := fun vs H Q _ => ∃ (p dx : Addr) (vc vn : V) (c : Cl) (n : Option Int), vs = [.ref p, vc, vn] ∧ H p = some (.ins C dx []) ∧ SmC c ∧ NumOk n ∧ Dp K H vc (encC c) ∧ Dp K H vn (encO n) ∧
  ∀ k d1 d2 H', (srN c n k).2 = [] → SeAt P w K C H' p d1 d2 (srN c n k).1 → (∀ b o, H b = some o → b ≠ p → H' b = some o) → Q .non H'
theorem sc_sinit : FnScope ["self", "claim", "number", "layer", "state", "fresh"] ["self", "claim", "number"] (defScope sSInit) := ⟨rfl, rfl, rfl, by decide +kernel, rfl, by decide +kernel, by decide +kernel⟩
theorem ok_sinit {f fb : Addr} {fd fdb : FuncData} (F : Fun K "__init__" "Search.__init__" sSInit f fd) (T : Tx mg) (Z : TSe K mg C) (D_begun_states : FnD P w K mg base 2 "begun_states" g_begun_states) (mB : Meth K C "behind" fb) (GB : FnOk P w K mg base CX0 4 fb fdb ["self", "claim", "state"] (spBehind P w C K)) (bB : Binds K fdb ["self", "claim", "state"] []) :
    FnOk P w K mg base CX0 5 f fd ["self", "claim", "number"] (spSInit P w C K) := by
  refine F.ok sc_sinit (fun vs H Q E h => ?_) (fun cdv A outer s H vs Q E hr h => ?_)
  · obtain ⟨p, dx, vc, vn, c, n, rfl, _⟩ := h
    rfl
  · obtain ⟨p, dx, vc, vn, c, n, rfl, hp, hc, hn, dc, dn, q⟩ := h
    obtain ⟨tk, hm⟩ := T.c_MOST_STATES
    refine ⟨_, pss_cons (ps_fld (pv 0) (d_dcS (j := 4) hr.units sc_sinit.nd (i_list (d_call D_begun_states (hr.mono (by decide)) (da_cons (pd 1) (da_cons (pd 2) da_nil)))) (blkOk_by (N := ["self", "claim", "number", "layer", "state", "fresh"]) (sc := defScope sSInit) (by decide +kernel))
        (fun _ _ _ _ _ => pg_name (i := 4) sc_sinit.nd rfl (Or.inl rfl)) (fun _ _ _ _ _ => pv 4) (fun _ _ _ _ _ => pe_non)) rfl)
      (pss_cons (ps_fld (pv 0) pe_dnewK rfl)
      (pss_cons (ps_fld (pv 0) pe_int rfl)
      (pss_cons (ps_set (i := 3) sc_sinit.nd rfl (Or.inl rfl) (pe_callTy (call_listS rfl) (by rfl) T.b_list bt_list (pa_cons (pe_fld (pv 0) rfl) pa_nil)))
      (pss_one (ps_while PassesOwn.never (t_cmp (op_neD hr.units) ov_ne (pd 3) (d_lst da_nil) (nomark _))
        (pss_cons (ps_if (pt_cmpR op_gt (pe_callB call_lenS (by rfl) T.b_len bt_len (pa_cons (pe_fld (pv 0) rfl) pa_nil)) (pe_glob rfl hm (v := .int 20000) ⟨tk, rfl⟩) (nomark _)) (pss_one ps_never) pss_nil)
        (pss_one (ps_setLc2 (i := 3) (own := [("state", 4), ("fresh", 5)]) (vs1 := [5]) (g := gName 4) (tt := tYes) (g1 := gName 5) (tt1 := tYes) (wi1 := iList K (tMeth C "behind" (spBehind P w C K) [] E0 (tVar 0) (tCons (tVar 1) (tCons (tVar 4) tNil)))) rfl sc_sinit.nd rfl rfl (sw_true rfl rfl rfl (by decide +kernel)) (pi_list (pv 3)) (blkOk_by (N := ["self", "claim", "number", "layer", "state", "fresh"]) (sc := defScope sSInit) (by decide +kernel)) (by decide)
          (fun _ _ _ _ _ => pg_name (i := 4) sc_sinit.nd rfl (Or.inl rfl)) (fun _ _ _ _ _ => pts_nil)
          (fun _ _ _ _ _ => pi_list (pe_meth (pv 0) Z.cl mB GB (hr.mono (by decide)) bB .nil pass0 (pa_cons (pv 1) (pa_cons (pv 4) pa_nil))))
          (fun _ _ _ _ _ => pg_name (i := 5) sc_sinit.nd rfl (Or.inl rfl)) (fun _ _ _ _ _ => pts_nil) (fun _ _ _ _ _ => pv 5))))))))), ?_⟩
    -- self.known = {..}
    have hc0 := hc.toCOk
    have G0 := Good.beg hc0 hn
    have lv3 := hc.lvs
    have t5 := hc.top5
    refine ⟨[none, some (encC c), some (encO n), none, none, none], (inf c.frm c.to).map (begS c.w n), (by show 4 < 6; decide), env_no (env_c dc (env_c dn (env_no (env_no (env_no env_nil))))), ?_, ?_, ?_, fun d1 H1 s1 hd1 dst1 => ?_⟩
    · simp -implicitDefEqProofs only [fItemsL, fCall, fCons, fNil, fVar, List.getElem?_cons_zero, List.getElem?_cons_succ, Option.join_some, Option.bind_some, Option.map_some, g_begun_states_eq hc0 n, asLst_lst, List.map_map]
      rfl
    · have := G0.nd
      rw [show (beg0 c n).1.ents.map (·.st) = (inf c.frm c.to).map (begS c.w n) by simp [beg0]] at this
      exact this
    · rw [List.length_map, inf_length]
      show _ ≤ 100000
      omega
    have h1p := s1 _ _ hp
    refine ⟨_, rfl, p, C, dx, [], rfl, h1p, Z.cl, Z.nK, (by show 0 < 1000; decide), ?_⟩
    -- self.runs = {}
    intro d2 hd2
    have n12 : d1 ≠ p := fun z => by rw [z] at hd1; rw [hp] at hd1; cases hd1
    have n2p : d2 ≠ p := fun z => by rw [z, upd_same] at hd2; cases hd2
    have e2p : ∀ o, upd (upd H1 p (.ins C dx (putF "known" (.ref d1) []))) d2 o p = some (.ins C dx (putF "known" (.ref d1) [])) := fun o => by rw [upd_ne n2p.symm, upd_same]
    refine ⟨_, rfl, p, C, dx, _, rfl, e2p _, Z.cl, Z.nR, (by show 1 < 1000; decide), ?_⟩
    -- self.busy = 0
    refine ⟨_, rfl, p, C, dx, _, rfl, upd_same, Z.cl, Z.nB, (by simp only [putF, if_neg nKR]; show 2 < 1000; decide), ?_⟩
    have dst2 := dst1.upd (o := .ins C dx (putF "known" (.ref d1) [])) (by rw [h1p]; exact noDat_ins.1) n12
    have n1d2 : d1 ≠ d2 := by
      obtain ⟨φ, e⟩ := dst2.some
      exact ne_of_none e hd2
    have dst3 := dst2.upd (p := d2) (o := .dK []) (by rw [hd2]; exact ⟨fun _ z => (nomatch z), fun _ _ z => (nomatch z)⟩) n1d2
    have dst4 := dst3.upd (o := .ins C dx (putF "runs" (.ref d2) (putF "known" (.ref d1) []))) (by rw [e2p]; exact noDat_ins.1) n12
    have dst5 := dst4.upd (o := .ins C dx (flds d1 d2 0)) (by rw [upd_same]; exact noDat_ins.1) n12
    have S5 : SeAt P w K C (upd (upd (upd (upd H1 p (.ins C dx (putF "known" (.ref d1) []))) d2 (.dK [])) p (.ins C dx (putF "runs" (.ref d2) (putF "known" (.ref d1) [])))) p (.ins C dx (flds d1 d2 0))) p d1 d2 (beg0 c n).1 := by
      refine ⟨⟨dx, upd_same⟩, ⟨_, dst5, ?_⟩, ⟨[], by rw [upd_ne n2p, upd_ne n2p, upd_same], .nil⟩⟩
      have : ∀ l : List Int, Paired (EntR K (upd (upd (upd (upd H1 p (.ins C dx (putF "known" (.ref d1) []))) d2 (.dK [])) p (.ins C dx (putF "runs" (.ref d2) (putF "known" (.ref d1) [])))) p (.ins C dx (flds d1 d2 0)))) ((l.map (begS c.w n)).map fun s => (s, V.non)) (l.map fun lv => (⟨begS c.w n lv, none, lv, []⟩ : Ent)) := by
        intro l
        induction l with
        | nil => exact .nil
        | cons a r ih => exact .cons ⟨rfl, .non⟩ ih
      exact this _
    have fr5 : ∀ b o, H b = some o → b ≠ p → (upd (upd (upd (upd H1 p (.ins C dx (putF "known" (.ref d1) []))) d2 (.dK [])) p (.ins C dx (putF "runs" (.ref d2) (putF "known" (.ref d1) [])))) p (.ins C dx (flds d1 d2 0))) b = some o := by
      intro b o e hb
      have e1 := s1 _ _ e
      have e2 : upd H1 p (HO.ins C dx (putF "known" (.ref d1) [])) b = some o := by rw [upd_ne hb]; exact e1
      have hb2 : b ≠ d2 := fun z => by rw [z, hd2] at e2; cases e2
      rw [upd_ne hb, upd_ne hb, upd_ne hb2]
      exact e2
    generalize hH5 : upd (upd (upd (upd H1 p (.ins C dx (putF "known" (.ref d1) []))) d2 (.dK [])) p (.ins C dx (putF "runs" (.ref d2) (putF "known" (.ref d1) [])))) p (.ins C dx (flds d1 d2 0)) = H5 at S5 fr5 dst5
    have hH5' : upd (upd (upd (upd H1 p (.ins C dx (putF "known" (.ref d1) []))) d2 (.dK [])) p (.ins C dx (putF "runs" (.ref d2) (putF "known" (.ref d1) [])))) p (.ins C dx (putF "busy" (.int 0) (putF "runs" (.ref d2) (putF "known" (.ref d1) [])))) = H5 := hH5
    rw [hH5']
    have np : NoDats [p] H := fun b hb => by
      rw [List.mem_singleton] at hb
      subst hb
      rw [hp]
      exact noDat_ins
    have kpH : ∀ {H' : Hp}, (∀ b o, H b = some o → b ≠ p → H' b = some o) → Kp [p] H H' := fun h b o e hb => h b o e fun z => hb (by simp [z])
    -- layer = list(self.known)
    obtain ⟨⟨dx5, g1⟩, ⟨kvs, g2, g3⟩, _⟩ := id S5
    refine ⟨_, rfl, p, C, dx5, _, _, rfl, g1, Z.cl, Z.nK, flds_known _ _ _, d1, kvs, rfl, g2, fun aL vsL haL dL => ?_⟩
    have keys : keysD kvs = (beg0 c n).2.map encS := by
      have : ∀ {kvs : List (Sst × V)} {l : List Int}, Paired (EntR K H5) kvs (l.map fun lv => (⟨begS c.w n lv, none, lv, []⟩ : Ent)) → keysD kvs = (l.map fun lv => begS c.w n lv).map encS := by
        intro kvs l h
        induction l generalizing kvs with
        | nil => cases h; rfl
        | cons a r ih =>
          cases h with
          | cons h1 h2 =>
            have := ih h2
            simp only [keysD, List.map_cons] at this ⊢
            rw [this, h1.1]
      exact this g3
    rw [keys] at dL
    have S6 : SeAt P w K C (upd H5 aL (.lst vsL)) p d1 d2 (beg0 c n).1 := S5.same (Same.new haL)
    have s56 : Same H5 (upd H5 aL (.lst vsL)) := Same.new haL
    -- while layer != []
    let W : Nat → L2.St → Hp → Prop := fun m σ H' => ∃ (k : Nat) (aL : Addr) (vsL : List V) (x4 x5 : Option V), σ = [some (.ref p), some vc, some vn, some (.ref aL), x4, x5] ∧ SeAt P w K C H' p d1 d2 (srN c n k).1 ∧ H' aL = some (.lst vsL) ∧ DpAll K H' vsL ((srN c n k).2.map encS) ∧ (∀ b o, H b = some o → b ≠ p → H' b = some o) ∧ m = mes (srN c n k)
    refine ⟨W, ⟨_, 0, aL, vsL, none, none, rfl, S6, upd_same, dL.same s56, fun b o e hb => s56 _ _ (fr5 b o e hb), rfl⟩, ?_⟩
    rintro m σ H7 ⟨k, aL, vsL, x4, x5, rfl, S7, hL7, dL7, fr7, rfl⟩
    have Gk := Good.srN hc hn k
    generalize hT : srN c n k = Tk at S7 dL7 Gk
    refine ⟨[none, none, none, some (.list (Tk.2.map encS)), none, none], !decide (Tk.2 = []), env_no (env_no (env_no (env_c (.lst (SqL.of hL7) dL7) (env_no (env_no env_nil))))), ?_, fun H8 s8 => ?_⟩
    · simp -implicitDefEqProofs only [fT, f2, fLst, fNil, fVar, List.getElem?_cons_zero, List.getElem?_cons_succ, Option.join_some, Option.bind_some, List.length_nil, zBig, Nat.zero_le, if_true, ne_nil_Ss, asB_bool]
    have S8 := S7.same s8
    have fr8 : ∀ b o, H b = some o → b ≠ p → H8 b = some o := fun b o e hb => s8 _ _ (fr7 b o e hb)
    by_cases hne : Tk.2 = []
    · rw [hne]
      refine iteNS (by simp) ?_
      refine q k d1 d2 H8 (by rw [hT]; exact hne) (by rw [hT]; exact S8) fr8
    · rw [decide_eq_false hne]
      refine iteT ?_
      refine ⟨fun σ' H' => ∃ m', m' < mes Tk ∧ W m' σ' H', fun σ' H' h => h, ?_⟩
      -- if len(self.known) > MOST_STATES
      obtain ⟨⟨dx8, u1⟩, ⟨kv8, u2, u3⟩, _⟩ := id S8
      refine ⟨_, rfl, p, C, dx8, _, _, rfl, u1, Z.cl, Z.nK, flds_known _ _ _, d1, kv8, rfl, u2, _, _, rfl, rfl, _, rfl, ?_⟩
      have few := Gk.few hc
      have lkv := Paired.length u3
      refine ite2 (fun z => absurd (of_decide_eq_true z) (by omega)) fun _ => ?_
      -- layer = [..]
      refine ⟨_, rfl, aL, rfl, ⟨_, SqL.of (s8 _ _ hL7)⟩, fun D hD => ?_⟩
      have hLD : aL ≠ D := ne_of_none (s8 _ _ hL7) hD
      have nD : D ∉ [p, d1, d2] := S8.out hD
      let Ti : Nat → Sr × List Sst := fun i => layM c.w (inf c.lo c.hi) (Tk.2.take i) (Tk.1, [])
      have dL8 := dL7.same s8
      have lenL : vsL.length = Tk.2.length := by rw [dL7.length, List.length_map]
      let W2 : Nat → Nat → Hp → Prop := fun i m H' => m = vsL.length - i ∧ i ≤ vsL.length ∧ ∃ ws, Kp [p, d1, d2] H8 H' ∧ SeAt P w K C H' p d1 d2 (Ti i).1 ∧ H' D = some (.lst ws) ∧ DpAll K H' ws ((Ti i).2.map encS)
      have n8 := S8.noDats
      have ti0 : Ti 0 = (Tk.1, []) := by simp only [Ti, List.take_zero]; exact layM_nil _ _ _
      refine ⟨W2, ⟨_, rfl, Nat.zero_le _, [], (Same.new hD).kp, by rw [ti0]; exact S8.same (Same.new hD), upd_same, by rw [ti0]; exact .nil⟩, ?_⟩
      rintro i m H9 ⟨rfl, hi, ws, kp9, S9, hD9, dw9⟩
      have hL9 : H9 aL = some (.lst vsL) := kp_of_list kp9 (s8 _ _ hL7) n8
      have dL9 := dL8.kp kp9 n8
      by_cases hlt : i < vsL.length
      · have hlt' : i < Tk.2.length := by omega
        refine .inr ⟨⟨vsL, vsL[i], SqL.of hL9, by simp⟩, fun H' => ∃ m', m' < vsL.length - i ∧ W2 (i + 1) m' H', fun H' h => h, fun x H10 y => ?_⟩
        obtain ⟨rfl, y⟩ := y
        have hx := y vsL (SqL.of hL9)
        obtain ⟨d, hd, dx9⟩ := dL9.get' hx
        rw [List.getElem?_map, List.getElem?_eq_getElem hlt'] at hd
        cases hd
        refine ⟨rfl, ?_⟩
        simp only [tYes, if_true]
        -- self.behind(claim, state)
        have Gi : Good c n (Ti i) := Gk.lay hc i
        have hf : (findE (Ti i).1.ents Tk.2[i]).isSome = true := by
          obtain ⟨x', h1, h2⟩ := findE_isSome.mp (Gk.ly _ (List.getElem_mem hlt'))
          obtain ⟨⟨more, m1, _⟩, _⟩ := layM_grow (w := c.w) (is := inf c.lo c.hi) (Tk.2.take i) (Tk.1, [])
          exact findE_isSome.mpr ⟨x', by show x' ∈ (layM c.w (inf c.lo c.hi) (Tk.2.take i) (Tk.1, [])).1.ents; rw [m1]; exact List.mem_append_left _ h1, h2⟩
        obtain ⟨e, he⟩ := Option.isSome_iff_exists.mp hf
        obtain ⟨he1, he2⟩ := findE_st he
        have Ti1 : Ti (i + 1) = ((behindM c.w e (inf c.lo c.hi) ((Ti i).1, [])).1, (Ti i).2 ++ (behindM c.w e (inf c.lo c.hi) ((Ti i).1, [])).2) := layM_take (List.getElem?_eq_getElem hlt') he
        obtain ⟨⟨dx9', v1⟩, _, _⟩ := id S9
        have n9 := S9.noDats
        have dc9 : Dp K H10 vc (encC c) := (dc.kp (kpH fr8) np).kp kp9 n8
        refine ⟨_, rfl, p, dx9', _, rfl, v1, flds_no _ _ _ (by decide +kernel) (by decide +kernel) (by decide +kernel), _, rfl, _, rfl, p, d1, d2, vc, x, c, n, Ti i, e, rfl, hc, Gi, he2, S9, dc9, by rw [he1]; exact dx9, fun l ws2 H11 hl kp11 S11 hl11 dl11 => ?_⟩
        have hlD : l ≠ D := fun z => by rw [z, hD9] at hl; cases hl
        have hD11 : H11 D = some (.lst ws) := kp_of_list kp11 hD9 n9
        have dw11 := dw9.kp kp11 n9
        have kp81 := kp9.trans kp11
        have nsD : NoSeq (H11 D) := by rw [hD11]; exact noSeq_lst
        have Gi1 : Good c n (Ti (i + 1)) := Gk.lay hc (i + 1)
        have lenw : ws.length + ws2.length ≤ 14580 := by
          have h1 := dw9.length
          have h2 := dl11.length
          rw [List.length_map] at h1 h2
          have h3 := Gi1.lyn
          have h4 := Gi1.few hc
          rw [Ti1, List.length_append] at h3
          rw [Ti1] at h4
          exact Nat.le_trans (by rw [h1, h2]; exact h3) h4
        have kpD : ∀ xs, Kp [D] H11 (upd H11 D (.lst xs)) := fun xs => Kp.upd Kp.refl (by simp)
        -- the inner walk
        let W3 : Nat → Nat → Hp → Prop := fun j m H' => m = ws2.length - j ∧ j ≤ ws2.length ∧ H' = upd H11 D (.lst (ws ++ ws2.take j))
        refine ⟨l, rfl, ⟨_, SqL.of hl11⟩, W3, ⟨_, rfl, Nat.zero_le _, ?_⟩, ?_⟩
        · rw [List.take_zero, List.append_nil]
          funext b
          by_cases hb : b = D
          · subst hb; rw [upd_same]; exact hD11
          · rw [upd_ne hb]
        rintro j m H12 ⟨rfl, hj, rfl⟩
        have hl12 : upd H11 D (.lst (ws ++ ws2.take j)) l = some (.lst ws2) := by rw [upd_ne hlD]; exact hl11
        by_cases hjl : j < ws2.length
        · refine .inr ⟨⟨ws2, ws2[j], SqL.of hl12, by simp⟩, fun H' => ∃ m', m' < ws2.length - j ∧ W3 (j + 1) m' H', fun H' h => h, fun x2 H13 y2 => ?_⟩
          obtain ⟨rfl, y2⟩ := y2
          have hx2 := y2 ws2 (SqL.of hl12)
          refine ⟨rfl, ?_⟩
          refine ⟨_, rfl, ws ++ ws2.take j, upd_same, ?_, ?_⟩
          · rw [List.length_append, List.length_take]
            refine Nat.lt_of_le_of_lt (Nat.le_trans (Nat.add_le_add_left (Nat.min_le_right _ _) _) lenw) (by rw [sizeLine_eq]; decide)
          · refine ⟨ws2.length - (j + 1), by omega, rfl, hjl, ?_⟩
            rw [upd_upd, List.take_add_one, hx2, List.append_assoc]
            rfl
        · have ej : j = ws2.length := by omega
          subst ej
          refine .inl ⟨⟨ws2, SqL.of hl12, Nat.le_refl _⟩, vsL.length - (i + 1), by omega, rfl, hlt, ws ++ ws2, ?_, ?_, ?_, ?_⟩
          · intro b o e nb
            have e1 := kp81 b o e nb
            have hb : b ≠ D := fun z => by rw [z, hD] at e; cases e
            rw [upd_ne hb]
            exact e1
          · rw [Ti1]
            exact S11.upd nD nsD
          · rw [List.take_length]
            exact upd_same
          · rw [Ti1, List.map_append]
            exact (DpAll.upd nsD dw11 (noL_map noL_S _)).append (DpAll.upd nsD dl11 (noL_map noL_S _))
      · have ei : i = vsL.length := by omega
        subst ei
        refine .inl ⟨⟨vsL, SqL.of hL9, Nat.le_refl _⟩, ?_⟩
        have eT : Ti vsL.length = stepM c Tk := by
          show layM c.w (inf c.lo c.hi) (Tk.2.take vsL.length) (Tk.1, []) = _
          rw [lenL, List.take_length]
          rfl
        rw [eT] at S9 dw9
        have e1 : srN c n (k + 1) = stepM c Tk := by rw [← hT]; rfl
        refine ⟨mes (srN c n (k + 1)), ?_, k + 1, D, ws, _, _, rfl, by rw [e1]; exact S9, hD9, by rw [e1]; exact dw9, fun b o e hb => ?_, rfl⟩
        · rw [e1]
          exact mes_step hc Gk hne
        · have e8 := fr8 b o e hb
          refine kp9 b o e8 fun z => ?_
          rcases List.mem_cons.mp z with z | z
          · exact hb z
          · have hd2n : H d2 = none := by
              cases q2 : H d2 with
              | none => rfl
              | some o2 =>
                have := s1 _ _ q2
                rw [upd_ne n2p, this] at hd2
                cases hd2
            rcases List.mem_cons.mp z with z | z
            · rw [z, hd1] at e; cases e
            · rw [List.mem_singleton] at z
              rw [z, hd2n] at e; cases e
end
end Pm
set_option maxHeartbeats 4000000
/-! SF: a dict == {}, sorted states, min of pairs -/
namespace Pm
open PySem PySem.Spec PyProof.Rows L2
section
variable {X : Cx}
def rEq0 : R2 := fun x y H Q => ∃ a b ks, x = .ref a ∧ y = .ref b ∧ H a = some (.dK ks) ∧ H b = some (.dK []) ∧ Q (.bl (decide (ks.length = 0))) H
theorem op_eq0 (hu : X.A.units < cLine) : OpR X (compareOp .Eq) rEq0 := by
  intro pins s σ H x y v u Q I rx ry h
  obtain ⟨a, b, ks, rfl, rfl, ea, eb, q⟩ := h
  obtain rfl : v = Value.ref a := rx
  obtain rfl : u = Value.ref b := ry
  obtain ⟨_, ya, va, ra, da⟩ := (show ObjOk X.prog X.w H s.heap a (.dK ks) from I.hok a _ ea)
  obtain ⟨_, yb, vb, rb, db⟩ := (show ObjOk X.prog X.w H s.heap b (.dK []) from I.hok b _ eb)
  have hb : vb.length = 0 := by rw [← rb.length]; rfl
  have ha : ks.length = va.length := ra.length
  refine PySem.W.keq_eq (knd := mixKind X.prog X.w) (r := true) ya yb da db hu (fun e => ?_) ?_
  · have e0 : va = [] := List.eq_nil_of_length_eq_zero (by rw [e, hb])
    rw [e0]
    exact .nil
  · have e1 : (va.length == vb.length && true) = decide (ks.length = 0) := by
      rw [hb, ha, Bool.and_true]
      by_cases h0 : va.length = 0 <;> simp [h0]
    rw [e1]
    exact ⟨.bl _, H, I, rfl, q⟩

/-! ### sorted -/
def SRel (K : PySem.W.Frag) (H : Hp) (v : Value) (s : Sst) : Prop := ∃ x, RelV x v ∧ Dp K H x (encS s)
theorem srel_of {K : PySem.W.Frag} {H : Hp} : ∀ {sts : List Sst} {xs : List V} {vs : List Value}, DpAll K H xs (sts.map encS) → Vals xs vs → PySem.W.EachIs (SRel K H) vs sts
  | [], _, _, .nil, .nil => .nil
  | s :: sts, _, _, .cons h r, .cons h2 r2 => .cons ⟨_, h2, h⟩ (srel_of r r2)
theorem srel_back {K : PySem.W.Frag} {H : Hp} : ∀ {sts : List Sst} {vs : List Value}, PySem.W.EachIs (SRel K H) vs sts → ∃ xs, Vals xs vs ∧ DpAll K H xs (sts.map encS)
  | [], _, .nil => ⟨[], .nil, .nil⟩
  | s :: sts, _, .cons ⟨x, h1, h2⟩ r => by
    obtain ⟨xs, r1, r2⟩ := srel_back r
    exact ⟨x :: xs, .cons h1 r1, .cons h2 r2⟩
noncomputable def sortS (sts : List Sst) : List Sst := sts.mergeSort (PySem.W.dataLe false encS)
def rSortSS (K : PySem.W.Frag) : List V → Hp → VK → Prop := fun xs H Q => ∃ (v : V) (sts : List Sst), xs = [v] ∧ Dp K H v (.list (sts.map encS)) ∧ PySem.W.AllAlike (sts.map encS) ∧ sts.length ≤ zBig ∧ ∀ p ws, H p = none → DpAll K H ws ((sortS sts).map encS) → Q (.ref p) (upd H p (.lst ws))
theorem call_sortSS (hu : X.A.units + 64 < cLine) : CallR X (.builtin "sorted") (rSortSS X.K) := by
  intro pins s σ H xs us Q I r h
  obtain ⟨v, sts, rfl, hd, hal, hz, q⟩ := h
  obtain ⟨a, vs, rfl, hl, dl⟩ := dp_lst hd
  obtain ⟨its, rv, hp, hz2⟩ := I.list hl
  rw [Vals.ref1 r]
  have e := srel_of dl rv
  have er : PySem.W.EachIs (fun v b => ∃ as, Reads s.heap v (encS b) as) its sts := e.mono fun v b ⟨x, h1, h2⟩ => Dp.reads I _ _ _ h2 h1
  refine PySem.W.sorted_data (enc := encS) (vs := its) (R := SRel X.K H) hp.isList e er hal (PySem.W.Sortable.tuples fun b => ⟨_, _, rfl⟩) (zBig_le hz) (fun b _ => ?_) fun out hlen ho => ?_
  · have := encS_depth b
    omega
  · obtain ⟨ws, w1, w2⟩ := srel_back ho
    obtain ⟨ep, he'⟩ := PyProof.Rows.sortedAll_at s.heap its out.toArray
    have hlw : ws.length ≤ sizeLine := by
      rw [w1.length, hlen]
      exact zBig_le hz
    exact ⟨.ref _, upd H (s.heap.objs.size + 1) (.lst ws), I.laid (t' := s.toks) (fun _ _ => PyProof.Rows.sortedAll_old) (Nat.le_succ _) ⟨hlw, out, ep, w1, he'⟩, rfl, q _ _ (I.hok.fresh (Nat.le_succ _)) w2⟩

/-! ### min of pairs (length, word) -/
def encLW (p : Int × Str) : PyData := .tuple [.int p.1, .str p.2]
theorem depth_LW (p : Int × Str) : (encLW p).depth ≤ 1 := by
  unfold encLW
  simp [PyData.depth, PyData.depthAll]
theorem alike_LW (p q : Int × Str) : PySem.W.alike (encLW p) (encLW q) = true := by
  unfold encLW
  simp [PySem.W.alike, PySem.W.alikeAll]
def rMinLW (K : PySem.W.Frag) : List V → Hp → VK → Prop := fun xs H Q => ∃ (v : V) (p0 : Int × Str) (ps : List (Int × Str)), xs = [v] ∧ Dp K H v (.list ((p0 :: ps).map encLW)) ∧ ∀ x, Dp K H x (PySem.W.minD (encLW p0) (ps.map encLW)) → Q x H
theorem call_minLW (hc : X.calm = true) (hu : X.A.units + 64 < cLine) : CallR X (.builtin "min") (rMinLW X.K) := by
  intro pins s σ H xs us Q I r h
  obtain ⟨v, p0, ps, rfl, hd, q⟩ := h
  obtain ⟨a, vs, rfl, hl, dl⟩ := dp_lst hd
  obtain ⟨its, rv, hp, hz2⟩ := I.list hl
  rw [Vals.ref1 r]
  obtain ⟨as, hr⟩ := Dp.readsAll I _ _ _ dl rv
  have hdep := depth_map depth_LW (p0 :: ps)
  refine PySem.W.min_list_data (x := encLW p0) (xs := ps.map encLW) (vs := its.toArray) (I.ok.hd hc) hp.isList hr ⟨?_, ?_⟩ (by show _ + 1 + PyData.depthAll ((p0 :: ps).map encLW) < _; omega) fun i v h' tk bs hv hr' hk => ?_
  · intro d hd d' hd'
    obtain ⟨b, _, rfl⟩ := List.mem_map.mp (show d ∈ (p0 :: ps).map encLW from hd)
    obtain ⟨b', _, rfl⟩ := List.mem_map.mp (show d' ∈ (p0 :: ps).map encLW from hd')
    exact alike_LW b b'
  · intro d hd
    obtain ⟨b, _, rfl⟩ := List.mem_map.mp (show d ∈ (p0 :: ps).map encLW from hd)
    intro z
    cases z
  · have hv' : its[i]? = some v := by simpa using hv
    have hi : i < vs.length := by
      rw [rv.length]
      exact (List.getElem?_eq_some_iff.mp hv').1
    obtain ⟨u, hu1, hx2⟩ := Vals.get rv (List.getElem?_eq_getElem hi)
    rw [hv'] at hu1
    cases hu1
    have hx1 := List.getElem?_eq_getElem hi
    generalize vs[i] = x at hx1 hx2
    obtain ⟨d, hd1, hd2⟩ := dl.get' hx1
    obtain ⟨as2, hr2⟩ := Dp.reads I d x v hd2 hx2
    have e := (PyProof.Rows.reads_det (h := s.heap) (h' := h') (fun b o e _ => hk b o e) hr2 hr').1
    exact ⟨x, H, I.kept hk, hx2, q x (by rw [e]; exact hd2)⟩
end
end Pm
set_option maxHeartbeats 4000000
/-! SG: searched, word, verdict, states, safety_paper, cut_of, cut -/
namespace Pm
open PySem PySem.Spec PyProof.Rows L2

/-! ### the search's end -/
theorem stepM_nil (c : Cl) (S : Sr) : stepM c (S, []) = (S, []) := layM_nil _ _ _
theorem srN_stay {c : Cl} {n : Option Int} {k : Nat} (h : (srN c n k).2 = []) : ∀ j, srN c n (k + j) = srN c n k
  | 0 => rfl
  | j + 1 => by
    show stepM c (srN c n (k + j)) = _
    rw [srN_stay h j]
    have e : srN c n k = ((srN c n k).1, []) := Prod.ext rfl h
    rw [e]
    exact stepM_nil c _
theorem srN_same {c : Cl} {n : Option Int} {k j : Nat} (h : (srN c n k).2 = []) (g : (srN c n j).2 = []) : srN c n k = srN c n j := by
  rcases Nat.le_total k j with l | l
  · have := srN_stay h (j - k)
    rw [show k + (j - k) = j by omega] at this
    exact this.symm
  · have := srN_stay g (k - j)
    rw [show j + (k - j) = k by omega] at this
    exact this
theorem srN_mes {c : Cl} (hc : SmC c) {n : Option Int} (hn : NumOk n) : ∀ k, (srN c n k).2 = [] ∨ mes (srN c n k) + k ≤ mes (srN c n 0)
  | 0 => .inr (Nat.le_refl _)
  | k + 1 => by
    rcases srN_mes hc hn k with h | h
    · left
      have := srN_stay h 1
      rw [this]
      exact h
    · by_cases e : (srN c n k).2 = []
      · left
        have := srN_stay e 1
        rw [this]
        exact e
      · right
        have : mes (srN c n (k + 1)) < mes (srN c n k) := mes_step hc (Good.srN hc hn k) e
        omega
def bigK : Nat := 29162
theorem srN_end {c : Cl} (hc : SmC c) {n : Option Int} (hn : NumOk n) : (srN c n bigK).2 = [] := by
  rcases srN_mes hc hn bigK with h | h
  · exact h
  · exfalso
    have : mes (srN c n 0) ≤ 29161 := by
      unfold mes
      split <;> omega
    unfold bigK at h
    omega
open Classical in
/-- what the search ends with -/
noncomputable def fin (c : Cl) (n : Option Int) : Sr := if h : ∃ k, (srN c n k).2 = [] then (srN c n h.choose).1 else ⟨[], [], 0⟩
theorem fin_of {c : Cl} (hc : SmC c) {n : Option Int} (hn : NumOk n) {k : Nat} (h : (srN c n k).2 = []) : (srN c n k).1 = fin c n := by
  have hx : ∃ k, (srN c n k).2 = [] := ⟨k, h⟩
  unfold fin
  rw [dif_pos hx]
  exact congrArg Prod.fst (srN_same h hx.choose_spec)
theorem fin_good {c : Cl} (hc : SmC c) {n : Option Int} (hn : NumOk n) : Good c n (fin c n, []) := by
  have := (Good.srN hc hn bigK).lay0
  rw [fin_of hc hn (srN_end hc hn)] at this
  exact this
/-! ### the shortest of the runs -/
def lwR (r : Rs × Int × List Int) : Int × Str := ((r.2.2.length : Int) + 1, wordOf r.1)
def bestR (r : Rs × Int × List Int) (rs : List (Rs × Int × List Int)) : Rs × Int × List Int := rs.foldl (fun a y => if PySem.W.dataLt (encLW (lwR y)) (encLW (lwR a)) = true then y else a) r
theorem bestR_t {r a : Rs × Int × List Int} {rs : List (Rs × Int × List Int)} (h : PySem.W.dataLt (encLW (lwR a)) (encLW (lwR r)) = true) : bestR r (a :: rs) = bestR a rs := by
  show bestR (if PySem.W.dataLt (encLW (lwR a)) (encLW (lwR r)) = true then a else r) rs = _
  rw [if_pos h]
theorem bestR_f {r a : Rs × Int × List Int} {rs : List (Rs × Int × List Int)} (h : PySem.W.dataLt (encLW (lwR a)) (encLW (lwR r)) = false) : bestR r (a :: rs) = bestR r rs := by
  show bestR (if PySem.W.dataLt (encLW (lwR a)) (encLW (lwR r)) = true then a else r) rs = _
  rw [h]
  rfl
theorem bestR_mem (r : Rs × Int × List Int) : ∀ rs, bestR r rs ∈ r :: rs := by
  intro rs
  induction rs generalizing r with
  | nil => simp [bestR]
  | cons a rs ih =>
    cases q : PySem.W.dataLt (encLW (lwR a)) (encLW (lwR r)) with
    | true =>
      rw [bestR_t q]
      exact List.mem_cons_of_mem _ (ih a)
    | false =>
      rw [bestR_f q]
      rcases List.mem_cons.mp (ih r) with h | h
      · exact List.mem_cons.mpr (.inl h)
      · exact List.mem_cons_of_mem _ (List.mem_cons_of_mem _ h)
theorem minD_best (r : Rs × Int × List Int) : ∀ rs, PySem.W.minD (encLW (lwR r)) ((rs.map lwR).map encLW) = encLW (lwR (bestR r rs)) := by
  intro rs
  induction rs generalizing r with
  | nil => rfl
  | cons a rs ih =>
    have := ih (if PySem.W.dataLt (encLW (lwR a)) (encLW (lwR r)) = true then a else r)
    show PySem.W.minD (if PySem.W.dataLt (encLW (lwR a)) (encLW (lwR r)) = true then encLW (lwR a) else encLW (lwR r)) _ = encLW (lwR (bestR _ rs))
    rw [← this]
    congr 1
    split <;> rfl
theorem lt_LW (p q : Int × Str) (h : PySem.W.dataLt (encLW p) (encLW q) = false) : q.1 ≤ p.1 := by
  unfold encLW at h
  rw [PySem.W.dataLt_pair rfl rfl] at h
  by_cases e : p.1 = q.1
  · omega
  · rw [if_neg (by simp [PyData.eqv]; exact e), PySem.W.dataLt_int] at h
    simpa using h
theorem lt_LW' (p q : Int × Str) (h : PySem.W.dataLt (encLW p) (encLW q) = true) : p.1 ≤ q.1 := by
  unfold encLW at h
  rw [PySem.W.dataLt_pair rfl rfl] at h
  by_cases e : p.1 = q.1
  · omega
  · rw [if_neg (by simp [PyData.eqv]; exact e), PySem.W.dataLt_int] at h
    have := of_decide_eq_true h
    omega
theorem bestR_le (r : Rs × Int × List Int) : ∀ rs, ∀ x ∈ r :: rs, (bestR r rs).2.2.length ≤ x.2.2.length := by
  intro rs
  induction rs generalizing r with
  | nil =>
    intro x hx
    rw [List.mem_singleton] at hx
    subst hx
    exact Nat.le_refl _
  | cons a rs ih =>
    intro x hx
    cases q : PySem.W.dataLt (encLW (lwR a)) (encLW (lwR r)) with
    | true =>
      rw [bestR_t q]
      have h1 := lt_LW' _ _ q
      unfold lwR at h1
      simp only at h1
      rcases List.mem_cons.mp hx with e | hx
      · subst e
        have := ih a a List.mem_cons_self
        omega
      · exact ih a x hx
    | false =>
      rw [bestR_f q]
      have h1 := lt_LW _ _ q
      unfold lwR at h1
      simp only at h1
      rcases List.mem_cons.mp hx with e | hx
      · subst e
        exact ih x x List.mem_cons_self
      · rcases List.mem_cons.mp hx with e | hx
        · subst e
          have := ih r r List.mem_cons_self
          omega
        · exact ih r x (List.mem_cons_of_mem _ hx)
/-- what safety_paper tells -/
noncomputable def tableS (S : Sr) : List Sst := sortS (S.ents.map (·.st))
noncomputable def paperS (S : Sr) : PyData := match S.runs with
  | [] => .tuple [.str sSafe, .tuple ((tableS S).map encS)]
  | r :: rs => .tuple [.str (wordOf (bestR r rs).1), .tuple [.int (bestR r rs).2.1, encI (bestR r rs).2.2]]
theorem alike_O {a b : Option Int} (h : a.isSome = b.isSome) : PySem.W.alike (encO a) (encO b) = true := by
  cases a <;> cases b <;> first | rfl | cases h
theorem alike_S {c : Cl} {n : Option Int} {a b : Sst} (ha : Sml c n a) (hb : Sml c n b) : PySem.W.alike (encS a) (encS b) = true := by
  have h1 := ha.num
  rw [← hb.num] at h1
  have h2 : a.ready.isSome = b.ready.isSome := by
    unfold numOf at h1
    have := congrArg Option.isSome h1
    simpa using this
  unfold encS encI
  simp only [PySem.W.alike, PySem.W.alikeAll, PySem.W.alike_ints, alike_O h2, Bool.and_self]
theorem allAlike {c : Cl} {n : Option Int} {S : Sr} (G : Good c n (S, [])) : PySem.W.AllAlike ((S.ents.map (·.st)).map encS) := by
  intro d hd d' hd'
  obtain ⟨a, ha, rfl⟩ := List.mem_map.mp hd
  obtain ⟨b, hb, rfl⟩ := List.mem_map.mp hd'
  obtain ⟨x, hx, rfl⟩ := List.mem_map.mp ha
  obtain ⟨y, hy, rfl⟩ := List.mem_map.mp hb
  exact alike_S (G.sm x hx) (G.sm y hy)
section
variable {P : Program} {w : World} {K : PySem.W.Frag} {mg : Str → Option Value} {base : Heap} {C : Addr}
/-- a def by its promise -/
structure FnX (P : Program) (w : World) (K : PySem.W.Frag) (mg : Str → Option Value) (base : Heap) (k : Nat) (x : Str) (ps : List Str) (sp : Sp) : Prop where
  ex : ∃ (a : Addr) (fd : FuncData), mg x = some (.ref a) ∧ PySem.W.keepIn K (.ref a) = true ∧ Binds K fd ps [] ∧ FnOk P w K mg base CX0 k a fd ps sp
def spSearched (P : Program) (w : World) (C : Addr) (K : PySem.W.Frag) : Sp := fun vs H Q _ => ∃ (vc vn : V) (c : Cl) (n : Option Int), vs = [vc, vn] ∧ SmC c ∧ NumOk n ∧ Dp K H vc (encC c) ∧ Dp K H vn (encO n) ∧
  ∀ p d1 d2 H', Same H H' → SeAt P w K C H' p d1 d2 (fin c n) → Q (.ref p) H'
theorem sc_searched : FnScope ["claim", "number"] ["claim", "number"] (defScope (top 48)) := ⟨rfl, rfl, rfl, by decide +kernel, rfl, by decide +kernel, by decide +kernel⟩
theorem ok_searched {a fI : Addr} {fd fdI : FuncData} (F : Fun K "searched" "searched" (top 48) a fd) (Z : TSe K mg C) (D_need_claim : FnD P w K mg base 3 "need_claim" g_need_claim) (D_need_number : FnD P w K mg base 3 "need_number" g_need_number)
    (M : Mk K C fI) (GI : FnOk P w K mg base CX0 5 fI fdI ["self", "claim", "number"] (spSInit P w C K)) (bI : Binds K fdI ["self", "claim", "number"] []) : FnOk P w K mg base CX0 7 a fd ["claim", "number"] (spSearched P w C K) := by
  refine F.ok sc_searched (fun vs H Q E h => ?_) (fun cdv A outer s H vs Q E hr h => ?_)
  · obtain ⟨vc, vn, c, n, rfl, _⟩ := h
    rfl
  · obtain ⟨vc, vn, c, n, rfl, hc, hn, dc, dn, q⟩ := h
    refine ⟨_, pss_cons (ps_expr (d_call D_need_claim (hr.mono (by decide)) (da_cons (pd 0) da_nil)))
      (pss_cons (ps_expr (d_call D_need_number (hr.mono (by decide)) (da_cons (pd 1) da_nil)))
      (pss_one (ps_ret (pe_make M GI hr rfl Z.mgC bI .nil pass0 (pa_cons (pv 0) (pa_cons (pv 1) pa_nil)))))), ?_⟩
    refine ⟨[some (encC c), none], encC c, env_c dc (env_no env_nil), by simp -implicitDefEqProofs only [fCall, fCons, fNil, fVar, List.getElem?_cons_zero, Option.join_some, Option.bind_some, Option.map_some, g_need_claim_eq hc.toCOk], fun v1 H1 s1 _ => ?_⟩
    refine ⟨[none, some (encO n)], .none, env_no (env_c (dn.same s1) env_nil), by simp -implicitDefEqProofs only [fCall, fCons, fNil, fVar, List.getElem?_cons_zero, List.getElem?_cons_succ, Option.join_some, Option.bind_some, Option.map_some, g_need_number_eq hn], fun v2 H2 s2 _ => ?_⟩
    have s12 := s1.trans s2
    refine ⟨_, rfl, _, rfl, fun p dx hp hdx hne => ?_⟩
    have sN : Same H2 (upd (upd H2 dx (.own p)) p (.ins C dx [])) := fun b o e => by
      rw [upd_ne (ne_of_none e hp), upd_ne (ne_of_none e hdx)]
      exact e
    refine ⟨p, dx, vc, vn, c, n, rfl, upd_same, hc, hn, (dc.same s12).same sN, (dn.same s12).same sN, fun k d1 d2 H3 hk S fr => ⟨rfl, ?_⟩⟩
    rw [fin_of hc hn hk] at S
    refine q p d1 d2 H3 (fun b o e => ?_) S
    exact fr b o (sN _ _ (s12 _ _ e)) (ne_of_none (s12 _ _ e) hp)
def spWord (P : Program) (w : World) (C : Addr) (K : PySem.W.Frag) : Sp := fun vs H Q _ => ∃ (p d1 d2 : Addr) (S : Sr), vs = [.ref p] ∧ SeAt P w K C H p d1 d2 S ∧ S.runs = [] ∧ ∀ H', Same H H' → Q (.str sSafe) H'
theorem sc_word : FnScope ["self"] ["self"] (defScope sWord) := ⟨rfl, rfl, rfl, by decide +kernel, rfl, by decide +kernel, by decide +kernel⟩
theorem ok_word {f : Addr} {fd : FuncData} (F : Fun K "word" "Search.word" sWord f fd) (T : Tx mg) (Z : TSe K mg C) : FnOk P w K mg base CX0 1 f fd ["self"] (spWord P w C K) := by
  refine F.ok sc_word (fun vs H Q E h => ?_) (fun cdv A outer s H vs Q E hr h => ?_)
  · obtain ⟨p, d1, d2, S, rfl, _⟩ := h
    rfl
  · obtain ⟨p, d1, d2, S, rfl, hS, hrn, q⟩ := h
    refine ⟨_, pss_cons (ps_if (pt_cmpR (op_eq0 hr.units0) (pe_fld (pv 0) rfl) pe_dnewK (nomark _)) (pss_one (ps_ret (d_gstr T.c_SAFE))) pss_nil) (pss_one ps_never), ?_⟩
    obtain ⟨⟨dx, h1⟩, _, ⟨rvs, h3, h4⟩⟩ := id hS
    rw [hrn] at h4
    cases h4
    refine ⟨_, rfl, p, C, dx, _, _, rfl, h1, Z.cl, Z.nR, flds_runs _ _ _, fun d hd => ⟨d2, d, [], rfl, rfl, Same.new hd _ _ h3, upd_same, _, rfl, ?_⟩⟩
    refine iteT ?_
    refine ⟨[none], .str sSafe, env_no env_nil, rfl, fun v H1 s1 d1 => ?_⟩
    rw [dp_str d1]
    exact q H1 ((Same.new hd).trans s1)
theorem sc_verdict : FnScope ["claim", "number"] ["claim", "number"] (defScope (top 49)) := ⟨rfl, rfl, rfl, by decide +kernel, rfl, by decide +kernel, by decide +kernel⟩
noncomputable def g_verdict : List PyData → Option PyData := mkF (α := Cl × Option Int) (fun x => SmC x.1 ∧ NumOk x.2 ∧ (fin x.1 x.2).runs = []) (fun x => [encC x.1, encO x.2]) (fun _ => .str sSafe)
theorem g_verdict_eq {c : Cl} (hc : SmC c) {n : Option Int} (hn : NumOk n) (h : (fin c n).runs = []) : g_verdict [encC c, encO n] = some (.str sSafe) := mkF_eq (a := (c, n)) inj_CO ⟨hc, hn, h⟩
theorem dpa1 {H : Hp} {ds : List V} {a : PyData} (h : DpAll K H ds [a]) : ∃ x, ds = [x] ∧ Dp K H x a := by
  cases h with
  | cons h1 h =>
    cases h
    exact ⟨_, rfl, h1⟩
theorem dpa2 {H : Hp} {ds : List V} {a b : PyData} (h : DpAll K H ds [a, b]) : ∃ x y, ds = [x, y] ∧ Dp K H x a ∧ Dp K H y b := by
  cases h with
  | cons h1 h => cases h with
    | cons h2 h =>
      cases h
      exact ⟨_, _, rfl, h1, h2⟩
theorem ok_verdict {a fW : Addr} {fd fdW : FuncData} (F : Fun K "verdict" "verdict" (top 49) a fd) (Z : TSe K mg C) (D_searched : FnX P w K mg base 7 "searched" ["claim", "number"] (spSearched P w C K))
    (mW : Meth K C "word" fW) (GW : FnOk P w K mg base CX0 1 fW fdW ["self"] (spWord P w C K)) (bW : Binds K fdW ["self"] []) : FnOk P w K mg base CX0 8 a fd ["claim", "number"] (spF g_verdict K) := by
  obtain ⟨aS, fdS, mS, kS, bS, GS⟩ := D_searched.ex
  refine F.ok sc_verdict (fun vs H Q E h => ?_) (fun cdv A outer s H vs Q E hr h => ?_)
  · obtain ⟨ds, d, h1, h2, _⟩ := h
    obtain ⟨x, hP, rfl, rfl⟩ := mkF_some h2
    exact h1.length
  · obtain ⟨ds, d, h1, h2, q⟩ := h
    obtain ⟨⟨c, n⟩, ⟨hc, hn, hR⟩, rfl, rfl⟩ := mkF_some h2
    simp only at hc hn hR
    obtain ⟨vc, vn, rfl, dc, dn⟩ := dpa2 h1
    refine ⟨_, pss_one (ps_ret (pe_meth0 (pe_call GS hr rfl mS kS bS .nil pass0 (pa_cons (pv 0) (pa_cons (pv 1) pa_nil))) Z.cl mW GW (hr.mono (by decide)) bW .nil pass0)), ?_⟩
    refine ⟨_, rfl, _, rfl, vc, vn, c, n, rfl, hc, hn, dc, dn, fun p d1 d2 H1 s1 S => ?_⟩
    obtain ⟨⟨dx, h1⟩, _, _⟩ := id S
    exact ⟨p, dx, _, rfl, h1, flds_no _ _ _ (by decide +kernel) (by decide +kernel) (by decide +kernel), p, d1, d2, fin c n, rfl, S, hR, fun H2 s2 => q _ _ (s1.trans s2) (.str _)⟩
end
end Pm
set_option maxHeartbeats 4000000
/-! SH: states, cut_of, cut, safety_paper -/
namespace Pm
open PySem PySem.Spec PyProof.Rows L2
section
variable {P : Program} {w : World} {K : PySem.W.Frag} {mg : Str → Option Value} {base : Heap} {C : Addr}
theorem keys_of {H : Hp} : ∀ {kvs : List (Sst × V)} {es : List Ent}, Paired (EntR K H) kvs es → keysD kvs = (es.map (·.st)).map encS
  | [], _, .nil => rfl
  | q :: kvs, e :: es, .cons h t => by
    have := keys_of t
    simp only [keysD, List.map_cons] at this ⊢
    rw [this, h.1]
noncomputable def g_states : List PyData → Option PyData := mkF (α := Cl × Option Int) (fun x => SmC x.1 ∧ NumOk x.2) (fun x => [encC x.1, encO x.2]) (fun x => .tuple ((tableS (fin x.1 x.2)).map encS))
theorem g_states_eq {c : Cl} (hc : SmC c) {n : Option Int} (hn : NumOk n) : g_states [encC c, encO n] = some (.tuple ((tableS (fin c n)).map encS)) := mkF_eq (a := (c, n)) inj_CO ⟨hc, hn⟩
theorem sc_states : FnScope ["claim", "number"] ["claim", "number"] (defScope (top 50)) := ⟨rfl, rfl, rfl, by decide +kernel, rfl, by decide +kernel, by decide +kernel⟩
theorem fin_len {c : Cl} (hc : SmC c) {n : Option Int} (hn : NumOk n) : (fin c n).ents.length ≤ 14580 := (fin_good hc hn).few hc
theorem ok_states {a : Addr} {fd : FuncData} (F : Fun K "states" "states" (top 50) a fd) (T : Tx mg) (Z : TSe K mg C) (D_searched : FnX P w K mg base 7 "searched" ["claim", "number"] (spSearched P w C K)) : FnOk P w K mg base CX0 8 a fd ["claim", "number"] (spF g_states K) := by
  obtain ⟨aS, fdS, mS, kS, bS, GS⟩ := D_searched.ex
  refine F.ok sc_states (fun vs H Q E h => ?_) (fun cdv A outer s H vs Q E hr h => ?_)
  · obtain ⟨ds, d, h1, h2, _⟩ := h
    obtain ⟨x, hP, rfl, rfl⟩ := mkF_some h2
    exact h1.length
  · obtain ⟨ds, d, h1, h2, q⟩ := h
    obtain ⟨⟨c, n⟩, ⟨hc, hn⟩, rfl, rfl⟩ := mkF_some h2
    simp only at hc hn
    obtain ⟨vc, vn, rfl, dc, dn⟩ := dpa2 h1
    refine ⟨_, pss_one (ps_ret (pe_callTy call_tuple_of (by rfl) T.b_tuple bt_tuple (pa_cons (pe_callB (call_sortSS hr.units) (by rfl) T.b_sorted bt_sorted (pa_cons (pe_callTy (call_listS rfl) (by rfl) T.b_list bt_list
      (pa_cons (pe_fld (pe_call GS hr rfl mS kS bS .nil pass0 (pa_cons (pv 0) (pa_cons (pv 1) pa_nil))) rfl) pa_nil)) pa_nil)) pa_nil))), ?_⟩
    refine ⟨_, rfl, _, rfl, vc, vn, c, n, rfl, hc, hn, dc, dn, fun p d1 d2 H1 s1 S => ?_⟩
    obtain ⟨⟨dx, h1⟩, ⟨kvs, h2, h3⟩, _⟩ := id S
    refine ⟨p, C, dx, _, _, rfl, h1, Z.cl, Z.nK, flds_known _ _ _, d1, kvs, rfl, h2, fun l vs hl dl => ?_⟩
    rw [keys_of h3] at dl
    have s2 : Same H1 (upd H1 l (.lst vs)) := Same.new hl
    refine ⟨.ref l, (fin c n).ents.map (·.st), rfl, .lst (SqL.of upd_same) (dl.same s2), allAlike (fin_good hc hn), by rw [List.length_map]; exact Nat.le_trans (fin_len hc hn) (by show 14580 ≤ 100000; omega), fun p2 ws hp2 dws => ?_⟩
    have s3 := s2.trans (Same.new (o := .lst ws) hp2)
    refine ⟨p2, ws, rfl, .inl ⟨SqL.of upd_same, fun t ht => ?_⟩⟩
    have s4 : Same (upd (upd H1 l (.lst vs)) p2 (.lst ws)) (upd (upd (upd H1 l (.lst vs)) p2 (.lst ws)) t (.tup ws)) := Same.new ht
    exact q _ _ ((s1.trans s3).trans s4) (.tup (SqT.of upd_same) ((dws.same (Same.new hp2)).same s4))
noncomputable def g_cut_of : List PyData → Option PyData := mkF (α := Cl) (fun x => SmC x) (fun x => [encC x]) (fun x => .int (if (fin x none).bz > 1 then (fin x none).bz else 1))
theorem g_cut_of_eq {c : Cl} (hc : SmC c) : g_cut_of [encC c] = some (.int (if (fin c none).bz > 1 then (fin c none).bz else 1)) := mkF_eq inj_C hc
theorem numOk_none : NumOk none := fun _ e => by cases e
theorem sc_cut_of : FnScope ["claim"] ["claim"] (defScope (top 57)) := ⟨rfl, rfl, rfl, by decide +kernel, rfl, by decide +kernel, by decide +kernel⟩
theorem ok_cut_of {a fI : Addr} {fd fdI : FuncData} (F : Fun K "cut_of" "cut_of" (top 57) a fd) (T : Tx mg) (Z : TSe K mg C) (M : Mk K C fI) (GI : FnOk P w K mg base CX0 5 fI fdI ["self", "claim", "number"] (spSInit P w C K)) (bI : Binds K fdI ["self", "claim", "number"] []) :
    FnOk P w K mg base CX0 7 a fd ["claim"] (spF g_cut_of K) := by
  refine F.ok sc_cut_of (fun vs H Q E h => ?_) (fun cdv A outer s H vs Q E hr h => ?_)
  · obtain ⟨ds, d, h1, h2, _⟩ := h
    obtain ⟨x, hP, rfl, rfl⟩ := mkF_some h2
    exact h1.length
  · obtain ⟨ds, d, h1, h2, q⟩ := h
    obtain ⟨c, hc, rfl, rfl⟩ := mkF_some h2
    obtain ⟨vc, rfl, dc⟩ := dpa1 h1
    refine ⟨_, pss_one (ps_ret (pe_callB (call_max2 rfl) (by rfl) T.b_max bt_max (pa_cons pe_int (pa_cons (pe_fld (pe_make M GI hr rfl Z.mgC bI .nil pass0 (pa_cons (pv 0) (pa_cons pe_non pa_nil))) rfl) pa_nil)))), ?_⟩
    refine ⟨_, rfl, fun p dx hp hdx hne => ?_⟩
    have sN : Same H (upd (upd H dx (.own p)) p (.ins C dx [])) := fun b o e => by
      rw [upd_ne (ne_of_none e hp), upd_ne (ne_of_none e hdx)]
      exact e
    refine ⟨p, dx, vc, .non, c, none, rfl, upd_same, hc, numOk_none, dc.same sN, .non, fun k d1 d2 H3 hk S fr => ⟨rfl, ?_⟩⟩
    rw [fin_of hc numOk_none hk] at S
    obtain ⟨⟨dx3, h3⟩, _, _⟩ := id S
    refine ⟨p, C, dx3, _, _, rfl, h3, Z.cl, Z.nB, flds_busy _ _ _, _, _, rfl, ?_⟩
    refine q _ H3 (fun b o e => ?_) (.int _)
    exact fr b o (sN _ _ e) (ne_of_none e hp)
noncomputable def g_cut : List PyData → Option PyData := mkF (α := Cl) (fun x => SmC x) (fun x => [encC x]) (fun x => .int (if (fin x none).bz > 1 then (fin x none).bz else 1))
theorem g_cut_eq {c : Cl} (hc : SmC c) : g_cut [encC c] = some (.int (if (fin c none).bz > 1 then (fin c none).bz else 1)) := mkF_eq inj_C hc
theorem sc_cut : FnScope ["claim"] ["claim"] (defScope (top 58)) := ⟨rfl, rfl, rfl, by decide +kernel, rfl, by decide +kernel, by decide +kernel⟩
theorem ok_cut {a : Addr} {fd : FuncData} (F : Fun K "cut" "cut" (top 58) a fd) (D_need_claim : FnD P w K mg base 3 "need_claim" g_need_claim) (D_cut_of : FnD P w K mg base 7 "cut_of" g_cut_of) : FnOk P w K mg base CX0 8 a fd ["claim"] (spF g_cut K) := by
  refine okD F sc_cut ?_ ?_ (fun cdv A outer s H E hr => (ss_one (s_ret (d_call D_cut_of (hr.mono (by decide)) (da_cons (d_call D_need_claim (hr.mono (by decide)) (da_cons (pd 0) da_nil)) da_nil)))))
  · intro ds d h
    obtain ⟨x, hP, rfl, rfl⟩ := mkF_some h
    rfl
  · intro ds d h
    obtain ⟨c, hP, rfl, rfl⟩ := mkF_some h
    left
    simp -implicitDefEqProofs [g_need_claim_eq hP.toCOk, g_cut_of_eq hP]
noncomputable def g_safety_paper : List PyData → Option PyData := mkF (α := Cl × Option Int) (fun x => SmC x.1 ∧ NumOk x.2) (fun x => [encC x.1, encO x.2]) (fun x => paperS (fin x.1 x.2))
theorem g_safety_paper_eq {c : Cl} (hc : SmC c) {n : Option Int} (hn : NumOk n) : g_safety_paper [encC c, encO n] = some (paperS (fin c n)) := mkF_eq (a := (c, n)) inj_CO ⟨hc, hn⟩
theorem valV_run {H : Hp} : ∀ {rvs : List (Key × V)} {rs : List (Rs × Int × List Int)} {r : Rs × Int × List Int}, (rs.map (·.1)).Nodup → r ∈ rs → Paired (RunR K H) rvs rs → ∃ v, valV rvs (Sum.inr (wordOf r.1) : Key) = some v ∧ Dp K H v (encI (r.2.1 :: r.2.2))
  | [], _, r, hn, hr, .nil => by cases hr
  | q :: rvs, x :: rs, r, hn, hr, .cons h t => by
    obtain ⟨h1, h2, h3⟩ := h
    rw [List.map_cons, List.nodup_cons] at hn
    rcases List.mem_cons.mp hr with e | hr
    · subst e
      exact ⟨q.2, by simp [valV, h1], h3⟩
    · obtain ⟨v, g1, g2⟩ := valV_run hn.2 hr t
      refine ⟨v, ?_, g2⟩
      have hw : isWord r.1 = true := by
        have : ∀ {rvs : List (Key × V)} {rs : List (Rs × Int × List Int)}, r ∈ rs → Paired (RunR K H) rvs rs → isWord r.1 = true := by
          intro rvs rs hm hp
          induction hp with
          | nil => cases hm
          | cons a b ih =>
            rcases List.mem_cons.mp hm with e | hm
            · subst e; exact a.2.1
            · exact ih hm
        exact this hr t
      have : ¬ q.1 = (Sum.inr (wordOf r.1) : Key) := by
        rw [h1]
        intro z
        injection z with z
        have := wordOf_inj h2 hw z
        exact hn.1 (by rw [this]; exact List.mem_map.mpr ⟨r, hr, rfl⟩)
      simpa [valV, this] using g1
theorem sc_safety_paper : FnScope ["claim", "number", "search", "word", "run"] ["claim", "number"] (defScope (top 52)) := ⟨rfl, rfl, rfl, by decide +kernel, rfl, by decide +kernel, by decide +kernel⟩
theorem ok_safety_paper {a : Addr} {fd : FuncData} (F : Fun K "safety_paper" "safety_paper" (top 52) a fd) (T : Tx mg) (Z : TSe K mg C) (D_searched : FnX P w K mg base 7 "searched" ["claim", "number"] (spSearched P w C K)) : FnOk P w K mg base CX0 8 a fd ["claim", "number"] (spF g_safety_paper K) := by
  obtain ⟨aS, fdS, mS, kS, bS, GS⟩ := D_searched.ex
  refine F.ok sc_safety_paper (fun vs H Q E h => ?_) (fun cdv A outer s H vs Q E hr h => ?_)
  · obtain ⟨ds, d, h1, h2, _⟩ := h
    obtain ⟨x, hP, rfl, rfl⟩ := mkF_some h2
    exact h1.length
  · obtain ⟨ds, d, h1, h2, q⟩ := h
    obtain ⟨⟨c, n⟩, ⟨hc, hn⟩, rfl, rfl⟩ := mkF_some h2
    simp only at hc hn q
    obtain ⟨vc, vn, rfl, dc, dn⟩ := dpa2 h1
    refine ⟨_, pss_cons (ps_set (i := 2) sc_safety_paper.nd rfl (Or.inl rfl) (pe_call GS hr rfl mS kS bS .nil pass0 (pa_cons (pv 0) (pa_cons (pv 1) pa_nil))))
      (pss_cons (ps_if (pt_cmpR (op_eq0 hr.units0) (pe_fld (pv 2) rfl) pe_dnewK (nomark _))
        (pss_one (ps_ret (pe_tup (pa_cons (d_gstr T.c_SAFE) (pa_cons (pe_callTy call_tuple_of (by rfl) T.b_tuple bt_tuple (pa_cons (pe_callB (call_sortSS hr.units) (by rfl) T.b_sorted bt_sorted (pa_cons (pe_callTy (call_listS rfl) (by rfl) T.b_list bt_list
          (pa_cons (pe_fld (pv 2) rfl) pa_nil)) pa_nil)) pa_nil)) pa_nil))))) pss_nil)
      (pss_cons (ps_set (i := 3) sc_safety_paper.nd rfl (Or.inl rfl) (pe_ix ix_tup (pe_callB (call_minLW rfl hr.units) (by rfl) T.b_min bt_min (pa_cons (pe_lock (pe_lc (own := [("word", 3), ("run", 4)]) (tt := tYes) (te := tTup (tCons (tCB (rLenD K) (tCons (tVar 4) tNil)) (tCons (tVar 3) tNil))) (g := gTup K 2 (gCons (gName 3) (gCons (gName 4) gNil))) rfl sc_safety_paper.nd (pi_items (pe_fld (pv 2) rfl)) (blkOk_by (N := ["claim", "number", "search", "word", "run"]) (sc := defScope (top 52)) (by decide +kernel))
            (fun _ _ _ _ _ => pg_tup rfl (pgs_cons (pg_name (i := 3) sc_safety_paper.nd rfl (Or.inl rfl)) (pgs_cons (pg_name (i := 4) sc_safety_paper.nd rfl (Or.inl rfl)) pgs_nil))) (fun _ _ _ _ _ => pts_nil)
            (fun _ _ _ _ _ => pe_tup (pa_cons (pe_callB call_lenP (by rfl) T.b_len bt_len (pa_cons (pv 4) pa_nil)) (pa_cons (pv 3) pa_nil))))) pa_nil)) pe_int (fun _ _ => rfl)))
      (pss_cons (ps_set (i := 4) sc_safety_paper.nd rfl (Or.inl rfl) (pe_dget (hu_of hr) (pe_fld (pv 2) rfl) (pv 3) (fun _ _ => rfl)))
      (pss_one (ps_ret (d_tup (da_cons (pd 3) (da_cons (d_tup (da_cons (d_ix (pd 4) d_int) (da_cons (d_slice (pd 4) (do_some d_int) do_none) da_nil))) da_nil)))))))), ?_⟩
    -- search = searched(claim, number)
    refine ⟨_, rfl, _, rfl, vc, vn, c, n, rfl, hc, hn, dc, dn, fun p d1 d2 H1 s1 S => ?_⟩
    have G := fin_good hc hn
    have few := fin_len hc hn
    generalize hF : fin c n = Sf at S G few q
    obtain ⟨⟨dx, h1⟩, ⟨kvs, h2, h3⟩, ⟨rvs, h4, h5⟩⟩ := id S
    -- if search.runs == {}
    refine ⟨_, rfl, p, C, dx, _, _, rfl, h1, Z.cl, Z.nR, flds_runs _ _ _, fun d hd => ⟨d2, d, rvs, rfl, rfl, Same.new hd _ _ h4, upd_same, _, rfl, ?_⟩⟩
    have sd : Same H1 (upd H1 d (.dK [])) := Same.new hd
    have lenr := Paired.length h5
    cases hr0 : Sf.runs with
    | nil =>
      rw [show decide (rvs.length = 0) = true by rw [lenr, hr0]; rfl]
      refine iteT ?_
      refine ⟨[none, none, none, none, none], .str sSafe, env_no (env_no (env_no (env_no (env_no env_nil)))), rfl, fun vw H2 s2 d2' => ?_⟩
      obtain rfl := dp_str d2'
      have s12 := sd.trans s2
      refine ⟨_, rfl, p, C, dx, _, _, rfl, s12 _ _ h1, Z.cl, Z.nK, flds_known _ _ _, d1, kvs, rfl, h2.same s12, fun l vs hl dl => ?_⟩
      rw [keys_of h3] at dl
      have s3 : Same H2 (upd H2 l (.lst vs)) := Same.new hl
      refine ⟨.ref l, Sf.ents.map (·.st), rfl, .lst (SqL.of upd_same) (dl.same s3), allAlike G, by rw [List.length_map]; exact Nat.le_trans few (by show 14580 ≤ 100000; omega), fun p2 ws hp2 dws => ?_⟩
      have s4 : Same (upd H2 l (.lst vs)) (upd (upd H2 l (.lst vs)) p2 (.lst ws)) := Same.new hp2
      refine ⟨p2, ws, rfl, .inl ⟨SqL.of upd_same, fun t ht => ?_⟩⟩
      have s5 : Same (upd (upd H2 l (.lst vs)) p2 (.lst ws)) (upd (upd (upd H2 l (.lst vs)) p2 (.lst ws)) t (.tup ws)) := Same.new ht
      refine ⟨(by show 2 ≤ sizeLine; decide), fun t2 ht2 => ?_⟩
      have s6 : Same (upd (upd (upd H2 l (.lst vs)) p2 (.lst ws)) t (.tup ws)) (upd (upd (upd (upd H2 l (.lst vs)) p2 (.lst ws)) t (.tup ws)) t2 (.tup [.str sSafe, .ref t])) := Same.new ht2
      refine q _ _ ((((s1.trans s12).trans s3).trans s4).trans (s5.trans s6)) ?_
      unfold paperS
      rw [hr0]
      exact .tup (SqT.of upd_same) (.cons (.str _) (.cons (.tup (SqT.of (s6 _ _ upd_same)) (((dws.same s4).same s5).same s6)) .nil))
    | cons r0 rs =>
      have hlen1 : rvs.length = rs.length + 1 := by rw [lenr, hr0]; rfl
      rw [decide_eq_false (by omega)]
      refine iteF ?_
      -- min([(len(run), word) for word, run in search.runs.items()])
      have hd2 := sd _ _ h4
      refine ⟨d2, .dK rvs, hd2, True.intro, fun od => ?_⟩
      have n1 := S.ne
      have h1L : upd (upd H1 d (.dK [])) d2 (.frz od (.dK rvs)) p = some (.ins C dx (flds d1 d2 Sf.bz)) := by rw [upd_ne n1.2.1]; exact sd _ _ h1
      have nd2 : NoDats [d2] (upd H1 d (.dK [])) := fun b hb => by
        rw [List.mem_singleton] at hb
        subst hb
        rw [hd2]
        exact noDat_dK
      have kL : Kp [d2] (upd H1 d (.dK [])) (upd (upd H1 d (.dK [])) d2 (.frz od (.dK rvs))) := Kp.upd Kp.refl (by simp)
      refine ⟨_, rfl, p, C, dx, _, _, rfl, h1L, Z.cl, Z.nR, flds_runs _ _ _, d2, od, rvs, rfl, upd_same, fun D hD => ?_⟩
      generalize hHL : upd (upd H1 d (.dK [])) d2 (.frz od (.dK rvs)) = HL at *
      have hL2 : HL d2 = some (.frz od (.dK rvs)) := by rw [← hHL]; exact upd_same
      let PR : Hp → Addr → (Rs × Int × List Int) → Prop := fun H' t r => H' t = some (.tup [.int ((r.2.2.length : Int) + 1), .str (wordOf r.1)])
      refine ⟨fun i m H' => m = rvs.length - i ∧ i ≤ rvs.length ∧ Same HL H' ∧ ∃ ts : List Addr, H' D = some (.lst (ts.map V.ref)) ∧ Paired (PR H') ts (Sf.runs.take i), ⟨_, rfl, Nat.zero_le _, Same.new hD, [], upd_same, by rw [List.take_zero]; exact .nil⟩, ?_⟩
      rintro i m H3 ⟨rfl, hi, s3, ts, hD3, pr⟩
      have h23 := s3 _ _ hL2
      by_cases hlt : i < rvs.length
      · refine .inr ⟨⟨h23, hlt⟩, fun H' => ∃ m', m' < rvs.length - i ∧ (m' = rvs.length - (i + 1) ∧ i + 1 ≤ rvs.length ∧ Same HL H' ∧ ∃ ts : List Addr, H' D = some (.lst (ts.map V.ref)) ∧ Paired (PR H') ts (Sf.runs.take (i + 1))), fun H' ⟨m', a, b⟩ => ⟨m', a, b⟩, fun x H4 y => ?_⟩
        obtain ⟨T0, k, v, hk, rfl, hT0, rfl⟩ := y
        have hi' : i < Sf.runs.length := by rw [← lenr]; exact hlt
        obtain ⟨q0, g1, g2⟩ := pairedAt h5 (List.getElem?_eq_getElem hi')
        rw [hk] at g1
        cases g1
        obtain ⟨e1, e2, e3⟩ := g2
        simp only at e1
        subst e1
        have s4 : Same H3 (upd H3 T0 (.tup [kV (Sum.inr (wordOf Sf.runs[i].1)), v])) := Same.new hT0
        have dv : Dp K (upd H3 T0 (.tup [kV (Sum.inr (wordOf Sf.runs[i].1)), v])) v (encI (Sf.runs[i].2.1 :: Sf.runs[i].2.2)) := (((e3.same sd).kp kL nd2).same s3).same s4
        obtain ⟨tv, us, rfl, htv, dus⟩ := dp_tup dv
        have lus : us.length = Sf.runs[i].2.2.length + 1 := by
          have := dus.length
          simpa using this
        refine ⟨T0, _, rfl, SqT.of upd_same, rfl, _, _, rfl, _, _, rfl, rfl, rfl, ?_⟩
        simp only [tYes, if_true]
        refine ⟨_, rfl, .inl ⟨tv, us, rfl, .inr htv, _, rfl, (by show 2 ≤ sizeLine; decide), fun t ht => ?_⟩⟩
        have s5 : Same (upd H3 T0 (.tup [kV (Sum.inr (wordOf Sf.runs[i].1)), .ref tv])) (upd (upd H3 T0 (.tup [kV (Sum.inr (wordOf Sf.runs[i].1)), .ref tv])) t (.tup [.int us.length, kV (Sum.inr (wordOf Sf.runs[i].1))])) := Same.new ht
        have lts := Paired.length pr
        have s45 := s4.trans s5
        have hD5 := s45 _ _ hD3
        refine ⟨_, hD5, ?_, rvs.length - (i + 1), by omega, rfl, hlt, ?_, ts ++ [t], ?_, ?_⟩
        · rw [List.length_map, lts, List.length_take]
          exact small1000 (by have := G.runs2; show min i Sf.runs.length ≤ 1000; have : Sf.runs.length ≤ 2 := this; omega)
        · exact (s3.trans s45).mut hD
        · rw [List.map_append]
          exact upd_same
        · have nt : ∀ b o, (upd (upd H3 T0 (.tup [kV (Sum.inr (wordOf Sf.runs[i].1)), .ref tv])) t (.tup [.int us.length, kV (Sum.inr (wordOf Sf.runs[i].1))])) b = some (.tup o) → b ≠ D := fun b o e z => by
            rw [z, hD5] at e
            cases e
          rw [List.take_add_one, List.getElem?_eq_getElem hi']
          refine paired_append (Paired.mapP pr fun t' r e => ?_) ?_
          · show _ = _
            have := s45 _ _ e
            rw [upd_ne (nt _ _ this)]
            exact this
          · show _ = _
            have e : (upd (upd H3 T0 (.tup [kV (Sum.inr (wordOf Sf.runs[i].1)), .ref tv])) t (.tup [.int us.length, kV (Sum.inr (wordOf Sf.runs[i].1))])) t = some (.tup [.int us.length, kV (Sum.inr (wordOf Sf.runs[i].1))]) := upd_same
            rw [upd_ne (nt _ _ e), e, lus]
            rfl
      · have ei : i = rvs.length := by omega
        subst ei
        refine .inl ⟨⟨h23, Nat.le_refl _⟩, h23, ?_⟩
        rw [lenr, List.take_length] at pr
        -- unlocked
        have s6 : Same H1 (upd H3 d2 (.dK rvs)) := fun b o e => by
          by_cases hb : b = d2
          · subst hb
            rw [upd_same, ← h4, e]
          · rw [upd_ne hb]
            refine s3 _ _ ?_
            rw [← hHL, upd_ne hb]
            exact sd _ _ e
        have hDd : D ≠ d2 := fun z => by rw [z, h23] at hD3; cases hD3
        have dl : Dp K (upd H3 d2 (.dK rvs)) (.ref D) (.list ((lwR r0 :: rs.map lwR).map encLW)) := by
          refine .lst (SqL.of (by rw [upd_ne hDd]; exact hD3)) ?_
          rw [hr0] at pr
          have : ∀ {ts : List Addr} {rr : List (Rs × Int × List Int)}, Paired (PR H3) ts rr → DpAll K (upd H3 d2 (.dK rvs)) (ts.map V.ref) ((rr.map lwR).map encLW) := by
            intro ts rr h
            induction h with
            | nil => exact .nil
            | @cons t r ts rr h1 h2 ih =>
              have h1 : H3 t = some (.tup [.int ((r.2.2.length : Int) + 1), .str (wordOf r.1)]) := h1
              have ht : t ≠ d2 := fun z => by rw [z, h23] at h1; cases h1
              exact .cons (.tup (SqT.of (by rw [upd_ne ht]; exact h1)) (.cons (.int _) (.cons (.str _) .nil))) ih
          exact this pr
        refine ⟨.ref D, lwR r0, rs.map lwR, rfl, dl, fun x dx2 => ?_⟩
        rw [minD_best] at dx2
        obtain ⟨t, us, rfl, ht, du⟩ := dp_tup dx2
        obtain ⟨x1, x2, rfl, u1, u2⟩ := dpa2 du
        obtain rfl := dp_str u2
        refine ⟨t, _, 1, _, rfl, rfl, ht, rfl, ?_⟩
        -- run = search.runs[word]
        have hbm : bestR r0 rs ∈ Sf.runs := by rw [hr0]; exact bestR_mem r0 rs
        obtain ⟨vr, g1, g2⟩ := valV_run G.rn hbm h5
        refine ⟨_, rfl, p, C, dx, _, _, rfl, s6 _ _ h1, Z.cl, Z.nR, flds_runs _ _ _, _, rfl, d2, vr, rfl, (by rw [← g1]; exact DGet.k (k := Sum.inr (wordOf (bestR r0 rs).1)) (s6 _ _ h4)), ?_⟩
        -- return (word, (run[0], run[1:]))
        refine ⟨[none, none, none, some (.str (wordOf (bestR r0 rs).1)), some (encI ((bestR r0 rs).2.1 :: (bestR r0 rs).2.2))], .tuple [.str (wordOf (bestR r0 rs).1), .tuple [.int (bestR r0 rs).2.1, encI (bestR r0 rs).2.2]], env_no (env_no (env_no (env_c (.str _) (env_c (g2.same s6) env_nil)))), ?_, fun vf H7 s7 d7 => ?_⟩
        · have e1 : gIx (encI ((bestR r0 rs).2.1 :: (bestR r0 rs).2.2)) (.int 0) = some (.int (bestR r0 rs).2.1) := by simp [encI]
          have e2 : gSl (encI ((bestR r0 rs).2.1 :: (bestR r0 rs).2.2)) (some 1) none = some (encI (bestR r0 rs).2.2) := by
            rw [past_cut]
            rfl
          simp -implicitDefEqProofs only [fTup, fCons, fNil, f2, fSl, fPart, fNoPart, fVar, fC, List.getElem?_cons_zero, List.getElem?_cons_succ, Option.join_some, Option.bind_some, Option.map_some, e1, e2, asI_int, List.length_cons, List.length_nil, zBig, Nat.reduceAdd, Nat.reduceLeDiff, if_true]
        · refine q vf H7 ((s1.trans s6).trans s7) ?_
          unfold paperS
          rw [hr0]
          exact d7
end
end Pm
set_option maxHeartbeats 4000000
/-! ST: is_table -/
namespace Pm
open PySem PySem.Spec PyProof.Rows L2
def enc4 (s : Sst) : PyData := .tuple [.int s.lv, encI s.past, encI s.runs, encI s.rests]
/-- one row ahead of the other, by the first four -/
def Asc (a b : Sst) : Prop := PySem.W.alike (enc4 a) (enc4 b) = true ∧ PySem.W.dataLt (enc4 a) (enc4 b) = true
structure TabOk (c : Cl) (n : Option Int) (sts : List Sst) : Prop where
  cok : COk c
  st : ∀ s ∈ sts, SOk c.w s ∧ numOf s = n
  nd : sts.Nodup
  asc : ∀ p ∈ sts.zip (sts.drop 1), Asc p.1 p.2
  cl : ∀ s ∈ sts, ∀ i ∈ inf c.lo c.hi, ∃ t, beatS c.w s i = .st t
  ln : sts.length ≤ 14580
def isIn (sts : List Sst) : Rs → Bool
  | .st t => decide (t ∈ sts)
  | _ => false
def okTable (c : Cl) (n : Option Int) (sts : List Sst) : Bool := (inf c.frm c.to).all (fun lv => decide (begS c.w n lv ∈ sts)) && sts.all (fun s => (inf c.lo c.hi).all fun i => isIn sts (beatS c.w s i))
theorem map_enc_inj : ∀ {a b : List Sst}, a.map encS = b.map encS → a = b
  | [], [], _ => rfl
  | a :: as, b :: bs, h => by
    simp only [List.map_cons, List.cons.injEq] at h
    rw [encS_inj h.1, map_enc_inj h.2]
theorem inj_Tb : ∀ a b : Cl × Option Int × List Sst, ([encC a.1, encO a.2.1, .tuple (a.2.2.map encS)] : List PyData) = [encC b.1, encO b.2.1, .tuple (b.2.2.map encS)] → a = b := fun a b h => by
  obtain ⟨h1, h⟩ := inj1 h
  obtain ⟨h2, h⟩ := inj1 h
  have h3 := (inj1 h).1
  injection h3 with h3
  exact Prod.ext (encC_inj h1) (Prod.ext (encO_inj h2) (map_enc_inj h3))
noncomputable def g_is_table : List PyData → Option PyData := mkF (α := Cl × Option Int × List Sst) (fun x => TabOk x.1 x.2.1 x.2.2) (fun x => [encC x.1, encO x.2.1, .tuple (x.2.2.map encS)]) (fun x => .bool (okTable x.1 x.2.1 x.2.2))
theorem g_is_table_eq {c : Cl} {n : Option Int} {sts : List Sst} (h : TabOk c n sts) : g_is_table [encC c, encO n, .tuple (sts.map encS)] = some (.bool (okTable c n sts)) := mkF_eq (a := (c, n, sts)) inj_Tb h
theorem zipD_map : ∀ (a b : List Sst), zipD (a.map encS) (b.map encS) = (a.zip b).map fun p => .tuple [encS p.1, encS p.2]
  | [], _ => by simp [zipD]
  | _ :: _, [] => by simp [zipD]
  | x :: xs, y :: ys => by simp [zipD, zipD_map xs ys]
theorem cut4 (s : Sst) : gSl (encS s) none (some 4) = some (enc4 s) := by
  unfold encS enc4
  rw [gSl_tup, show (4 : Int) = ((4 : Nat) : Int) from rfl, cutP_to]
  rfl
theorem ltD4 {a b : Sst} (h : Asc a b) : gLtD (enc4 a) (enc4 b) = some (.bool true) := by
  unfold gLtD
  have hd : (enc4 a).depth ≤ 60 := by
    unfold enc4
    simp only [PyData.depth, PyData.depthAll, encI_depth]
    omega
  rw [if_pos ⟨h.1, rfl, hd⟩, h.2]
theorem wipe_get : ∀ {vs : List Nat} {σ : L2.St} {k : Nat}, k ∉ vs → (L2.wipe σ vs)[k]? = σ[k]?
  | [], σ, k, _ => rfl
  | v :: vs, σ, k, h => by
    show ((L2.wipe σ vs).set v none)[k]? = _
    rw [List.getElem?_set_ne (fun z => h (by rw [z]; exact List.mem_cons_self)), wipe_get fun z => h (List.mem_cons_of_mem _ z)]
section
variable {X : Cx}
/-- [x in d for target in ..], d a dict of states -/
def tLcIn (P : Program) (w : World) (K : PySem.W.Frag) (k : Nat) (fi : DE → Option (List PyData)) (set : PyData → DE → Option DE) (j : Nat) (vs : List Nat) : TE := fun σ H Q => ∃ (dk : Addr) (kvs : List (Sst × V)) (ρ : DE) (xs : List PyData) (sts : List Sst),
  σ[k]? = some (some (.ref dk)) ∧ k ∉ vs ∧ DSt P w K H dk kvs ∧ EnvD K H σ ρ ∧ fi ρ = some xs ∧ xs.length ≤ zBig ∧ xs.length = sts.length ∧ (∀ (i : Nat) (x : PyData), xs[i]? = some x → ∃ (ρ1 : DE) (s : Sst), set x (wipeD ρ vs) = some ρ1 ∧ ρ1[j]? = some (some (encS s)) ∧ sts[i]? = some s) ∧
  ∀ v H', Same H H' → Dp K H' v (.list (sts.map fun s => .bool (decide (s ∈ kvs.map (·.1))))) → Q v H'
theorem getS_mem {kvs : List (Sst × V)} {s : Sst} : (getS kvs s).isSome = decide (s ∈ kvs.map (·.1)) := by
  unfold getS
  rw [Option.isSome_map]
  cases h : kvs.find? fun p => decide (p.1 = s) with
  | none =>
    rw [List.find?_eq_none] at h
    symm
    apply decide_eq_false
    intro hm
    obtain ⟨x, hx, e⟩ := List.mem_map.mp hm
    exact h x hx (by simp [e])
  | some x =>
    symm
    apply decide_eq_true
    exact List.mem_map.mpr ⟨x, List.mem_of_find?_eq_some h, of_decide_eq_true (List.find?_some (p := fun p : Sst × V => decide (p.1 = s)) h)⟩
theorem d_lcIn {k j : Nat} {elt iter tg : Expr} {scope : Scope} {own : List (Str × Nat)} {pos : Pos} {gt : TG} {js : List Nat} {set : PyData → DE → Option DE} {fi : DE → Option (List PyData)} (hN : X.N.Nodup) (hi : PI X tg iter (iD X.K fi)) (ok : BlkOk X.N X.env.scope scope own)
    (dg : DG X.K gt js set) (hjs : ∀ j ∈ js, j ∈ own.map (·.2))
    (hg : ∀ (s : Shared) (H : Hp) (C : Addr) (cl : List (Str × Addr)) (fp : List Addr), PG (X.blk s H scope (compEnvC scope cl C X.env) fp) tg gt)
    (he : ∀ (s : Shared) (H : Hp) (C : Addr) (cl : List (Str × Addr)) (fp : List Addr), PE (X.blk s H scope (compEnvC scope cl C X.env) fp) elt (tOp (rInS X.prog X.w X.K) (tVar j) (tVar k))) (hc : X.calm = true := by rfl) (hs : ∀ x, foldedSetIterable iter X.env x = pure x := by intro _; rfl) :
    PE X (.ListComp elt [⟨tg, iter, [], 0⟩] scope pos) (tLcIn X.prog X.w X.K k fi set j (own.map (·.2))) := (pe_lc hc hN hi ok hg (fun _ _ _ _ _ => pts_nil) he hs).imp fun σ H Q ⟨dk, kvs, ρ, xs, sts, hk, hkv, hd, hen, hf, hz, hl, hx, q⟩ => by
  refine ⟨ρ, xs, hen, hf, fun J H1 s1 W D hD => ?_⟩
  let ys : List PyData := sts.map fun s => .bool (decide (s ∈ kvs.map (·.1)))
  refine ⟨fun i m H' => m = xs.length - i ∧ i ≤ xs.length ∧ Same H1 H' ∧ ∃ acc, H' D = some (.lst acc) ∧ DpAll X.K H' acc (ys.take i), ⟨xs.length, by simp, Nat.zero_le _, Same.new hD, [], upd_same, by rw [List.take_zero]; exact .nil⟩, ?_⟩
  rintro i m H' ⟨rfl, hi, s2, acc, hA, dA⟩
  have lenY : ys.length = xs.length := by simp [ys, hl]
  by_cases hlt : i < xs.length
  · refine .inr ⟨W.go i H' s2 hlt, fun H3 => i + 1 ≤ xs.length ∧ Same H1 H3 ∧ ∃ acc, H3 D = some (.lst acc) ∧ DpAll X.K H3 acc (ys.take (i + 1)), fun H3 ⟨a, b, c⟩ => ⟨xs.length - (i + 1), by omega, rfl, a, b, c⟩, fun x H3 y => ?_⟩
    obtain ⟨s3, _, dx, h6, h7⟩ := W.yld i H' x H3 s2 y hlt
    obtain ⟨ρ1, s0, h8, h9, h10⟩ := hx i dx h6
    have e3 : EnvD X.K H3 (L2.wipe σ (own.map (·.2))) (wipeD ρ (own.map (·.2))) := (((hen.same s1).same s2).same s3).wipe _
    refine dg.run x dx _ H3 _ ρ1 _ e3 h7 h8 fun σ2 he2 hw => ⟨?_, ?_⟩
    · rw [hw _ hjs, wipe_wipe]
    · simp only [tYes, if_true]
      obtain ⟨vx, g1, g2⟩ := he2.2 j _ h9
      have hk2 : σ2[k]? = some (some (.ref dk)) := by
        rw [← wipe_get hkv, hw _ hjs, wipe_wipe, wipe_get hkv]
        exact hk
      refine ⟨vx, g1, .ref dk, hk2, dk, s0, kvs, rfl, g2, ((hd.same s1).same s2).same s3, ?_⟩
      rw [getS_mem]
      have hA4 : H3 D = some (.lst acc) := s3 _ _ hA
      have dA4 : DpAll X.K H3 acc (ys.take i) := dA.same s3
      refine ⟨acc, hA4, ?_, hlt, (s2.trans s3).mut hD, acc ++ [.bl (decide (s0 ∈ kvs.map (·.1)))], upd_same, ?_⟩
      · rw [dA4.length, List.length_take]
        exact Nat.lt_of_le_of_lt (Nat.min_le_left _ _) (Nat.lt_of_lt_of_le hlt (zBig_le hz))
      · have ns : NoSeq (H3 D) := by rw [hA4]; exact noSeq_lst
        have e5 : ys.take (i + 1) = ys.take i ++ [.bool (decide (s0 ∈ kvs.map (·.1)))] := by
          rw [List.take_add_one]
          congr 1
          simp only [ys, List.getElem?_map, h10]
          rfl
        rw [e5]
        have hnl : noLAll ys = true := noL_map (fun _ => rfl) sts
        exact (DpAll.upd ns dA4 (noLAll_take i hnl)).append (.cons (.bl _) .nil)
  · have e : i = xs.length := by omega
    subst e
    refine .inl ⟨W.stop H' s2, q _ H' (s1.trans s2) ?_⟩
    rw [← lenY, List.take_length] at dA
    exact .lst (SqL.of hA) dA
end
theorem gAll_true {α : Type} (xs : List α) : gAll [.list (xs.map fun _ => .bool true)] = some (.bool true) := by
  have e : (xs.map fun _ => PyData.bool true) = (xs.map fun _ => true).map PyData.bool := by rw [List.map_map]; rfl
  rw [gAll_lst, e, bools_map]
  simp
theorem gAll_map {α : Type} (f : α → Bool) (xs : List α) : gAll [.list (xs.map fun x => .bool (f x))] = some (.bool (xs.all f)) := by
  have e : (xs.map fun x => PyData.bool (f x)) = (xs.map f).map PyData.bool := by rw [List.map_map]; rfl
  rw [gAll_lst, e, bools_map]
  show some (PyData.bool ((xs.map f).all id)) = _
  rw [List.all_map]
  rfl
theorem env_setx {K : PySem.W.Frag} {H : Hp} {σ : L2.St} {ρ : DE} {j : Nat} {x : Option V} (h : EnvD K H σ ρ) (hj : ρ[j]? = some none) : EnvD K H (σ.set j x) ρ := by
  refine ⟨by simp [h.1], fun i d hi => ?_⟩
  by_cases e : j = i
  · subst e
    rw [hj] at hi
    cases hi
  · rw [List.getElem?_set_ne e]
    exact h.2 i d hi
theorem env_forget {K : PySem.W.Frag} {H : Hp} {σ : L2.St} {ρ : DE} {j : Nat} {d : PyData} (h : EnvD K H σ (ρ.set j (some d))) (hj : ρ[j]? = some none) : EnvD K H σ ρ := by
  refine ⟨by simpa using h.1, fun i d' hi => ?_⟩
  by_cases e : j = i
  · subst e
    rw [hj] at hi
    cases hi
  · exact h.2 i d' (by rw [List.getElem?_set_ne e]; exact hi)
def tOf : Rs → Sst
  | .st t => t
  | _ => ⟨0, [], [], [], none⟩
theorem kvs_fst {v : V} (sts : List Sst) : (sts.map fun s => (s, v)).map (·.1) = sts := by
  induction sts with
  | nil => rfl
  | cons a r ih => rw [List.map_cons, List.map_cons, ih]
section
variable {P : Program} {w : World} {K : PySem.W.Frag} {mg : Str → Option Value} {base : Heap} {C : Addr}
theorem sc_is_table : FnScope ["claim", "number", "thing", "known", "state", "one", "other", "inflow", "fresh", "busy"] ["claim", "number", "thing"] (defScope (top 54)) := ⟨rfl, rfl, rfl, by decide +kernel, rfl, by decide +kernel, by decide +kernel⟩
theorem ok_is_table {a : Addr} {fd : FuncData} (F : Fun K "is_table" "is_table" (top 54) a fd) (T : Tx mg) (D_is_state_of : FnD P w K mg base 3 "is_state_of" g_is_state_of) (D_number_of : FnD P w K mg base 1 "number_of" g_number_of) (D_begun_states : FnD P w K mg base 2 "begun_states" g_begun_states) (D_beats_of : FnD P w K mg base 3 "beats_of" g_beats_of) : FnOk P w K mg base CX0 4 a fd ["claim", "number", "thing"] (spF g_is_table K) := by
  refine F.ok sc_is_table (fun vs H Q E h => ?_) (fun cdv A outer s H vs Q E hr h => ?_)
  · obtain ⟨ds, d, h1, h2, _⟩ := h
    obtain ⟨x, hP, rfl, rfl⟩ := mkF_some h2
    exact h1.length
  · obtain ⟨ds, d, h1, h2, q⟩ := h
    obtain ⟨⟨c, n, sts⟩, hP, rfl, rfl⟩ := mkF_some h2
    simp only at hP q
    obtain ⟨vc, vn, vt, rfl, dc, dn, dt⟩ := dpa3 h1
    refine ⟨_, pss_cons (s_if (t_not (t_val (d_isa (T := "tuple") (pd 2) T.b_isinstance T.b_tuple (hT := bt_tuple)))) (ss_one (s_ret d_bl)) ss_nil)
      (pss_cons (s_if (t_not (t_val (d_callB cv_all (cr_all rfl) T.b_all (da_cons (d_lc (own := [("state", 4)]) sc_is_table.nd (i_tup (pd 2)) (blkOk_by (N := ["claim", "number", "thing", "known", "state", "one", "other", "inflow", "fresh", "busy"]) (sc := (defScope (top 54))) (by decide +kernel)) (dg_name 4) (by decide) (fun _ _ _ _ _ => (pg_name (i := 4) sc_is_table.nd rfl (Or.inl rfl))) (fun _ _ _ _ _ => (d_and (d_call D_is_state_of (hr.mono (by decide)) (da_cons (d_ix (pd 0) d_int) (da_cons (pd 4) da_nil))) (pe_one (d_cmp (op_eqD hr.units) (ov_eq) (d_call D_number_of (hr.mono (by decide)) (da_cons (pd 4) da_nil)) (pd 1) (nomark _)))))) da_nil) (hv := bt_all)))) (ss_one (s_ret d_bl)) ss_nil)
      (pss_cons (s_if (t_not (t_val (d_callB cv_all (cr_all rfl) T.b_all (da_cons (d_lc (own := [("one", 5), ("other", 6)]) sc_is_table.nd (i_zip T.b_zip (da_cons (pd 2) (da_cons (d_slice (pd 2) (do_some d_int) do_none) da_nil))) (blkOk_by (N := ["claim", "number", "thing", "known", "state", "one", "other", "inflow", "fresh", "busy"]) (sc := (defScope (top 54))) (by decide +kernel)) (dg_tup [5, 6] 2) (by decide) (fun _ _ _ _ _ => (pg_tup rfl (pgs_cons (pg_name (i := 5) sc_is_table.nd rfl (Or.inl rfl)) (pgs_cons (pg_name (i := 6) sc_is_table.nd rfl (Or.inl rfl)) pgs_nil)))) (fun _ _ _ _ _ => (d_cmp (op_ltD hr.units) (ov_lt) (d_slice (pd 5) do_none (do_some d_int)) (d_slice (pd 6) do_none (do_some d_int)) (nomark _)))) da_nil) (hv := bt_all)))) (ss_one (s_ret d_bl)) ss_nil)
      (pss_cons (ps_set (i := 3) sc_is_table.nd rfl (Or.inr rfl) (d_dcS (j := 4) hr.units sc_is_table.nd (i_tup (pd 2)) (blkOk_by (N := ["claim", "number", "thing", "known", "state", "one", "other", "inflow", "fresh", "busy"]) (sc := defScope (top 54)) (by decide +kernel)) (fun _ _ _ _ _ => pg_name (i := 4) sc_is_table.nd rfl (Or.inl rfl)) (fun _ _ _ _ _ => pv 4) (fun _ _ _ _ _ => pe_bl)))
      (pss_cons (ps_if (pt_not (pt_val (pe_callB (cr_all rfl) (by rfl) T.b_all bt_all (pa_cons (d_lcIn (k := 3) (j := 4) (own := [("state", 4)]) sc_is_table.nd (i_list (d_call D_begun_states (hr.mono (by decide)) (da_cons (pd 0) (da_cons (pd 1) da_nil)))) (blkOk_by (N := ["claim", "number", "thing", "known", "state", "one", "other", "inflow", "fresh", "busy"]) (sc := defScope (top 54)) (by decide +kernel)) (dg_name 4) (by decide) (fun _ _ _ _ _ => pg_name (i := 4) sc_is_table.nd rfl (Or.inl rfl)) (fun _ _ _ _ _ => pe_cmpR (op_inS hr.units) (pv 4) (pv 3) (by rfl))) pa_nil)))) (pss_one (ps_ret pe_bl)) pss_nil)
      (pss_cons (ps_for PassesOwn.never rfl (pi_tup (pv 2)) (pg_name (i := 4) sc_is_table.nd rfl (Or.inl rfl))
        (pss_one (ps_if (pt_not (pt_val (pe_callB (cr_all rfl) (by rfl) T.b_all bt_all (pa_cons (d_lcIn (k := 3) (j := 8) (own := [("inflow", 7), ("fresh", 8), ("busy", 9)]) sc_is_table.nd (i_list (d_call D_beats_of (hr.mono (by decide)) (da_cons (d_ix (pd 0) d_int) (da_cons (pd 4) (da_cons (d_ix (pd 0) d_int) da_nil))))) (blkOk_by (N := ["claim", "number", "thing", "known", "state", "one", "other", "inflow", "fresh", "busy"]) (sc := defScope (top 54)) (by decide +kernel)) (dg_tup [7, 8, 9] 3) (by decide) (fun _ _ _ _ _ => pg_tup rfl (pgs_cons (pg_name (i := 7) sc_is_table.nd rfl (Or.inl rfl)) (pgs_cons (pg_name (i := 8) sc_is_table.nd rfl (Or.inl rfl)) (pgs_cons (pg_name (i := 9) sc_is_table.nd rfl (Or.inl rfl)) pgs_nil)))) (fun _ _ _ _ _ => pe_cmpR (op_inS hr.units) (pv 8) (pv 3) (by rfl))) pa_nil)))) (pss_one (ps_ret pe_bl)) pss_nil)))
      (pss_one (ps_ret pe_bl))))))), ?_⟩
    -- not a tuple
    have c1 := hP.cok
    have lnT := hP.ln
    generalize hρ : ([some (encC c), some (encO n), some (.tuple (sts.map encS)), none, none, none, none, none, none, none] : DE) = ρ0
    have env0 : EnvD K H (L2.start ["claim", "number", "thing", "known", "state", "one", "other", "inflow", "fresh", "busy"] [vc, vn, vt]) ρ0 := by rw [← hρ]; exact env_c dc (env_c dn (env_c dt (env_no (env_no (env_no (env_no (env_no (env_no (env_no env_nil)))))))))
    refine ⟨ρ0, .nx ρ0, env0, ?_, fun ρ' e1 σ1 H1 s1 v1 => ?_, fun d e1 => (nomatch e1)⟩
    · rw [← hρ]
      simp -implicitDefEqProofs only [startD, sSeq, sSet, sRet, sIf, sSkip, sNever, sAsgG, sPar, fTup, f2, fSl, fPart, fNoPart, fVar, fC, fCons, fNil, fIf, fT, fCall, fIsa, fOrT, fAndT, fNotT, fAnd, fLc, fRng, fZip, fItemsT, fItemsL, List.map_cons, List.map_nil, List.length_cons, List.length_nil, List.replicate, List.cons_append, List.nil_append, List.getElem?_cons_zero, List.getElem?_cons_succ, List.set_cons_zero, List.set_cons_succ, Option.join_some, Option.join_none, Option.bind_some, Option.map_some, thenR_nx, thenR_rt, asI_int, asB_bool, gAdd_int, gSub_int, gMul_int, gCmpI_int, zBig, Nat.reduceAdd, Nat.reduceLeDiff, Nat.reduceSub, ite_true, ite_false, Bool.false_eq_true, decide_true, decide_false, gIs_none, decide_eq_true_eq, isD_tuple, isD_str, isD_int, isD_bool, isTuple_tuple, Bool.not_true, Bool.not_false, asTup_tup, asLst_lst, asRng_int, asZip_tup, wipeD, gNe, gEq, shaped_int, shaped_bool, shaped_none, and_self, condB_bool]
    cases e1
    have c2 : sts.length ≤ 100000 := Nat.le_trans lnT (by omega)
    -- all are states
    refine ⟨ρ0, .nx ρ0, v1, ?_, fun ρ' e1 σ2 H2 s2 v2 => ?_, fun d e1 => (nomatch e1)⟩
    · rw [← hρ]
      simp -implicitDefEqProofs only [startD, sSeq, sSet, sRet, sIf, sSkip, sNever, sAsgG, sPar, fTup, f2, fSl, fPart, fNoPart, fVar, fC, fCons, fNil, fIf, fT, fCall, fIsa, fOrT, fAndT, fNotT, fAnd, fLc, fRng, fZip, fItemsT, fItemsL, List.map_cons, List.map_nil, List.length_cons, List.length_nil, List.replicate, List.cons_append, List.nil_append, List.getElem?_cons_zero, List.getElem?_cons_succ, List.set_cons_zero, List.set_cons_succ, Option.join_some, Option.join_none, Option.bind_some, Option.map_some, thenR_nx, thenR_rt, asI_int, asB_bool, gAdd_int, gSub_int, gMul_int, gCmpI_int, zBig, Nat.reduceAdd, Nat.reduceLeDiff, Nat.reduceSub, ite_true, ite_false, Bool.false_eq_true, decide_true, decide_false, gIs_none, decide_eq_true_eq, isD_tuple, isD_str, isD_int, isD_bool, isTuple_tuple, Bool.not_true, Bool.not_false, asTup_tup, asLst_lst, asRng_int, asZip_tup, wipeD, gNe, gEq, shaped_int, shaped_bool, shaped_none, and_self, condB_bool, List.length_map, c2]
      rw [lcRun_map (g := fun _ => .bool true) fun s hs => ⟨_, rfl, ?_⟩]
      · simp -implicitDefEqProofs only [startD, sSeq, sSet, sRet, sIf, sSkip, sNever, sAsgG, sPar, fTup, f2, fSl, fPart, fNoPart, fVar, fC, fCons, fNil, fIf, fT, fCall, fIsa, fOrT, fAndT, fNotT, fAnd, fLc, fRng, fZip, fItemsT, fItemsL, List.map_cons, List.map_nil, List.length_cons, List.length_nil, List.replicate, List.cons_append, List.nil_append, List.getElem?_cons_zero, List.getElem?_cons_succ, List.set_cons_zero, List.set_cons_succ, Option.join_some, Option.join_none, Option.bind_some, Option.map_some, thenR_nx, thenR_rt, asI_int, asB_bool, gAdd_int, gSub_int, gMul_int, gCmpI_int, zBig, Nat.reduceAdd, Nat.reduceLeDiff, Nat.reduceSub, ite_true, ite_false, Bool.false_eq_true, decide_true, decide_false, gIs_none, decide_eq_true_eq, isD_tuple, isD_str, isD_int, isD_bool, isTuple_tuple, Bool.not_true, Bool.not_false, asTup_tup, asLst_lst, asRng_int, asZip_tup, wipeD, gNe, gEq, shaped_int, shaped_bool, shaped_none, and_self, condB_bool, noL_map (g := fun _ : Sst => PyData.bool true) (fun _ => rfl) sts, gAll_true]
      · have e3 := g_is_state_of_eq c1.w (hP.st s hs).1
        have e4 := g_number_of_eq s
        rw [(hP.st s hs).2] at e4
        simp -implicitDefEqProofs only [startD, sSeq, sSet, sRet, sIf, sSkip, sNever, sAsgG, sPar, fTup, f2, fSl, fPart, fNoPart, fVar, fC, fCons, fNil, fIf, fT, fCall, fIsa, fOrT, fAndT, fNotT, fAnd, fLc, fRng, fZip, fItemsT, fItemsL, List.map_cons, List.map_nil, List.length_cons, List.length_nil, List.replicate, List.cons_append, List.nil_append, List.getElem?_cons_zero, List.getElem?_cons_succ, List.set_cons_zero, List.set_cons_succ, Option.join_some, Option.join_none, Option.bind_some, Option.map_some, thenR_nx, thenR_rt, asI_int, asB_bool, gAdd_int, gSub_int, gMul_int, gCmpI_int, zBig, Nat.reduceAdd, Nat.reduceLeDiff, Nat.reduceSub, ite_true, ite_false, Bool.false_eq_true, decide_true, decide_false, gIs_none, decide_eq_true_eq, isD_tuple, isD_str, isD_int, isD_bool, isTuple_tuple, Bool.not_true, Bool.not_false, asTup_tup, asLst_lst, asRng_int, asZip_tup, wipeD, gNe, gEq, shaped_int, shaped_bool, shaped_none, and_self, condB_bool, setN, ixC0, e3, e4, shaped_encO, eqv_O]
    cases e1
    -- they ascend
    refine ⟨ρ0, .nx ρ0, v2, ?_, fun ρ' e1 σ3 H3 s3 v3 => ?_, fun d e1 => (nomatch e1)⟩
    · rw [← hρ]
      have e5 : gSl (.tuple (sts.map encS)) (some 1) none = some (.tuple ((sts.drop 1).map encS)) := by
        rw [gSl_tup, show (1 : Int) = ((1 : Nat) : Int) from rfl, cutP_from, List.map_drop]
      have c3 : (sts.zip (sts.drop 1)).length ≤ 100000 := by
        rw [List.length_zip]
        omega
      simp -implicitDefEqProofs only [startD, sSeq, sSet, sRet, sIf, sSkip, sNever, sAsgG, sPar, fTup, f2, fSl, fPart, fNoPart, fVar, fC, fCons, fNil, fIf, fT, fCall, fIsa, fOrT, fAndT, fNotT, fAnd, fLc, fRng, fZip, fItemsT, fItemsL, List.map_cons, List.map_nil, List.length_cons, List.length_nil, List.replicate, List.cons_append, List.nil_append, List.getElem?_cons_zero, List.getElem?_cons_succ, List.set_cons_zero, List.set_cons_succ, Option.join_some, Option.join_none, Option.bind_some, Option.map_some, thenR_nx, thenR_rt, asI_int, asB_bool, gAdd_int, gSub_int, gMul_int, gCmpI_int, zBig, Nat.reduceAdd, Nat.reduceLeDiff, Nat.reduceSub, ite_true, ite_false, Bool.false_eq_true, decide_true, decide_false, gIs_none, decide_eq_true_eq, isD_tuple, isD_str, isD_int, isD_bool, isTuple_tuple, Bool.not_true, Bool.not_false, asTup_tup, asLst_lst, asRng_int, asZip_tup, wipeD, gNe, gEq, shaped_int, shaped_bool, shaped_none, and_self, condB_bool, e5, zipD_map, List.length_map, c3]
      rw [lcRun_map (g := fun _ => .bool true) fun p hp => ⟨_, rfl, ?_⟩]
      · simp -implicitDefEqProofs only [startD, sSeq, sSet, sRet, sIf, sSkip, sNever, sAsgG, sPar, fTup, f2, fSl, fPart, fNoPart, fVar, fC, fCons, fNil, fIf, fT, fCall, fIsa, fOrT, fAndT, fNotT, fAnd, fLc, fRng, fZip, fItemsT, fItemsL, List.map_cons, List.map_nil, List.length_cons, List.length_nil, List.replicate, List.cons_append, List.nil_append, List.getElem?_cons_zero, List.getElem?_cons_succ, List.set_cons_zero, List.set_cons_succ, Option.join_some, Option.join_none, Option.bind_some, Option.map_some, thenR_nx, thenR_rt, asI_int, asB_bool, gAdd_int, gSub_int, gMul_int, gCmpI_int, zBig, Nat.reduceAdd, Nat.reduceLeDiff, Nat.reduceSub, ite_true, ite_false, Bool.false_eq_true, decide_true, decide_false, gIs_none, decide_eq_true_eq, isD_tuple, isD_str, isD_int, isD_bool, isTuple_tuple, Bool.not_true, Bool.not_false, asTup_tup, asLst_lst, asRng_int, asZip_tup, wipeD, gNe, gEq, shaped_int, shaped_bool, shaped_none, and_self, condB_bool, noL_map (g := fun _ : Sst × Sst => PyData.bool true) (fun _ => rfl) _, gAll_true]
      · simp -implicitDefEqProofs only [startD, sSeq, sSet, sRet, sIf, sSkip, sNever, sAsgG, sPar, fTup, f2, fSl, fPart, fNoPart, fVar, fC, fCons, fNil, fIf, fT, fCall, fIsa, fOrT, fAndT, fNotT, fAnd, fLc, fRng, fZip, fItemsT, fItemsL, List.map_cons, List.map_nil, List.length_cons, List.length_nil, List.replicate, List.cons_append, List.nil_append, List.getElem?_cons_zero, List.getElem?_cons_succ, List.set_cons_zero, List.set_cons_succ, Option.join_some, Option.join_none, Option.bind_some, Option.map_some, thenR_nx, thenR_rt, asI_int, asB_bool, gAdd_int, gSub_int, gMul_int, gCmpI_int, zBig, Nat.reduceAdd, Nat.reduceLeDiff, Nat.reduceSub, ite_true, ite_false, Bool.false_eq_true, decide_true, decide_false, gIs_none, decide_eq_true_eq, isD_tuple, isD_str, isD_int, isD_bool, isTuple_tuple, Bool.not_true, Bool.not_false, asTup_tup, asLst_lst, asRng_int, asZip_tup, wipeD, gNe, gEq, shaped_int, shaped_bool, shaped_none, and_self, condB_bool, cut4, ltD4 (hP.asc p hp)]
    cases e1
    -- known = {state: True for state in thing}
    have lρ : ρ0.length = 10 := by rw [← hρ]; rfl
    refine ⟨ρ0, sts, (by rw [lρ]; decide), v3, ?_, hP.nd, c2, fun dk H4 s4 hdk dst => ?_⟩
    · rw [← hρ]
      simp -implicitDefEqProofs only [startD, sSeq, sSet, sRet, sIf, sSkip, sNever, sAsgG, sPar, fTup, f2, fSl, fPart, fNoPart, fVar, fC, fCons, fNil, fIf, fT, fCall, fIsa, fOrT, fAndT, fNotT, fAnd, fLc, fRng, fZip, fItemsT, fItemsL, List.map_cons, List.map_nil, List.length_cons, List.length_nil, List.replicate, List.cons_append, List.nil_append, List.getElem?_cons_zero, List.getElem?_cons_succ, List.set_cons_zero, List.set_cons_succ, Option.join_some, Option.join_none, Option.bind_some, Option.map_some, thenR_nx, thenR_rt, asI_int, asB_bool, gAdd_int, gSub_int, gMul_int, gCmpI_int, zBig, Nat.reduceAdd, Nat.reduceLeDiff, Nat.reduceSub, ite_true, ite_false, Bool.false_eq_true, decide_true, decide_false, gIs_none, decide_eq_true_eq, isD_tuple, isD_str, isD_int, isD_bool, isTuple_tuple, Bool.not_true, Bool.not_false, asTup_tup, asLst_lst, asRng_int, asZip_tup, wipeD, gNe, gEq, shaped_int, shaped_bool, shaped_none, and_self, condB_bool]
    have no3 : ρ0[3]? = some none := by rw [← hρ]; rfl
    have no4 : ρ0[4]? = some none := by rw [← hρ]; rfl
    have v4 : EnvD K H4 (σ3.set 3 (some (.ref dk))) ρ0 := env_setx (v3.same s4) no3
    have k4 : (σ3.set 3 (some (V.ref dk)))[3]? = some (some (.ref dk)) := List.getElem?_set_self (by rw [v3.1, lρ]; decide)
    have sall : Same H H4 := ((s1.trans s2).trans s3).trans s4
    -- all([state in known for state in begun_states(claim, number)])
    have i1 := c1.infl
    have l1 := c1.lvs
    have t1 := c1.w.top
    refine ⟨dk, _, ρ0, (inf c.frm c.to).map (fun lv => encS (begS c.w n lv)), (inf c.frm c.to).map (begS c.w n), k4, (by decide), dst, v4, ?_, ?_, by simp, ?_, fun v5 H5 s5 d5 => ?_⟩
    · rw [← hρ]
      simp -implicitDefEqProofs only [startD, sSeq, sSet, sRet, sIf, sSkip, sNever, sAsgG, sPar, fTup, f2, fSl, fPart, fNoPart, fVar, fC, fCons, fNil, fIf, fT, fCall, fIsa, fOrT, fAndT, fNotT, fAnd, fLc, fRng, fZip, fItemsT, fItemsL, List.map_cons, List.map_nil, List.length_cons, List.length_nil, List.replicate, List.cons_append, List.nil_append, List.getElem?_cons_zero, List.getElem?_cons_succ, List.set_cons_zero, List.set_cons_succ, Option.join_some, Option.join_none, Option.bind_some, Option.map_some, thenR_nx, thenR_rt, asI_int, asB_bool, gAdd_int, gSub_int, gMul_int, gCmpI_int, zBig, Nat.reduceAdd, Nat.reduceLeDiff, Nat.reduceSub, ite_true, ite_false, Bool.false_eq_true, decide_true, decide_false, gIs_none, decide_eq_true_eq, isD_tuple, isD_str, isD_int, isD_bool, isTuple_tuple, Bool.not_true, Bool.not_false, asTup_tup, asLst_lst, asRng_int, asZip_tup, wipeD, gNe, gEq, shaped_int, shaped_bool, shaped_none, and_self, condB_bool, g_begun_states_eq c1 n]
    · rw [List.length_map, inf_length]
      show _ ≤ 100000
      omega
    · intro i x hx
      rw [List.getElem?_map] at hx
      obtain ⟨lv, h5, rfl⟩ := Option.map_eq_some_iff.mp hx
      refine ⟨_, begS c.w n lv, rfl, ?_, by rw [List.getElem?_map, h5]; rfl⟩
      rw [← hρ]
      rfl
    rw [kvs_fst] at d5
    simp only [tNil]
    refine cv_all [v5] _ _ H5 _ (.cons d5 .nil) (gAll_map (fun s => decide (s ∈ sts)) _) fun v6 H6 s6 d6 => ?_
    refine ⟨_, dp_bl d6, ?_⟩
    have s46 := s5.trans s6
    have okE : okTable c n sts = (((inf c.frm c.to).map (begS c.w n)).all (fun s => decide (s ∈ sts)) && sts.all (fun s => (inf c.lo c.hi).all fun i => isIn sts (beatS c.w s i))) := by
      unfold okTable
      rw [List.all_map]
      rfl
    cases hb : ((inf c.frm c.to).map (begS c.w n)).all (fun s => decide (s ∈ sts)) with
    | false =>
      rw [hb, Bool.false_and] at okE
      refine iteT ?_
      rw [okE] at q
      exact q _ _ (sall.trans s46) (.bl _)
    | true =>
      rw [hb, Bool.true_and] at okE
      refine iteF ?_
      -- for state in thing
      have v6 := v4.same s46
      obtain ⟨vt', g1, g2⟩ := v6.2 2 (.tuple (sts.map encS)) (by rw [← hρ]; rfl)
      obtain ⟨aT, vsT, rfl, hT, dT⟩ := dp_tup g2
      have lenT : vsT.length = sts.length := by rw [dT.length, List.length_map]
      refine ⟨_, g1, aT, rfl, ⟨_, hT⟩, for_tup (xs := vsT) (fun i σ H' => Same H6 H' ∧ EnvD K H' σ ρ0 ∧ σ[3]? = some (some (.ref dk)) ∧ ∀ s ∈ sts.take i, (inf c.lo c.hi).all (fun i => isIn sts (beatS c.w s i)) = true)
        ⟨Same.refl _, v6, k4, fun s hs => by simp at hs⟩ (fun i σ H' _ h => same_t h.1 hT) ?_ ?_⟩
      · rintro i x σ H7 hx ⟨s7, v7, k7, all7⟩
        obtain ⟨d, hd, dx⟩ := dT.get' hx
        have hil : i < sts.length := by
          have := (List.getElem?_eq_some_iff.mp hx).1
          omega
        rw [List.getElem?_map, List.getElem?_eq_getElem hil] at hd
        cases hd
        have hsm : sts[i] ∈ sts := List.getElem_mem hil
        have v8 : EnvD K H7 (σ.set 4 (some x)) (ρ0.set 4 (some (encS sts[i]))) := v7.set (dx.same s7)
        have k8 : (σ.set 4 (some x))[3]? = some (some (.ref dk)) := by rw [List.getElem?_set_ne (by decide)]; exact k7
        have eB := g_beats_of_eq c1.w (hP.st _ hsm).1.toShp i1.1 (by omega) (by omega) i1.2.2
        have cl := hP.cl sts[i] hsm
        refine ⟨dk, _, ρ0.set 4 (some (encS sts[i])), (inf c.lo c.hi).map (encB c.w sts[i]), (inf c.lo c.hi).map (fun i' => tOf (beatS c.w sts[i] i')), k8, (by decide), (dst.same s46).same s7, v8, ?_, ?_, by simp, ?_, fun v9 H9 s9 d9 => ?_⟩
        · rw [← hρ]
          simp -implicitDefEqProofs only [startD, sSeq, sSet, sRet, sIf, sSkip, sNever, sAsgG, sPar, fTup, f2, fSl, fPart, fNoPart, fVar, fC, fCons, fNil, fIf, fT, fCall, fIsa, fOrT, fAndT, fNotT, fAnd, fLc, fRng, fZip, fItemsT, fItemsL, List.map_cons, List.map_nil, List.length_cons, List.length_nil, List.replicate, List.cons_append, List.nil_append, List.getElem?_cons_zero, List.getElem?_cons_succ, List.set_cons_zero, List.set_cons_succ, Option.join_some, Option.join_none, Option.bind_some, Option.map_some, thenR_nx, thenR_rt, asI_int, asB_bool, gAdd_int, gSub_int, gMul_int, gCmpI_int, zBig, Nat.reduceAdd, Nat.reduceLeDiff, Nat.reduceSub, ite_true, ite_false, Bool.false_eq_true, decide_true, decide_false, gIs_none, decide_eq_true_eq, isD_tuple, isD_str, isD_int, isD_bool, isTuple_tuple, Bool.not_true, Bool.not_false, asTup_tup, asLst_lst, asRng_int, asZip_tup, wipeD, gNe, gEq, shaped_int, shaped_bool, shaped_none, and_self, condB_bool, ixC0, ixC1, eB]
        · rw [List.length_map, inf_length]
          show _ ≤ 100000
          omega
        · intro j x' hx'
          rw [List.getElem?_map] at hx'
          obtain ⟨b, h5, rfl⟩ := Option.map_eq_some_iff.mp hx'
          obtain ⟨t, ht⟩ := cl b (List.mem_of_getElem? h5)
          refine ⟨_, t, rfl, ?_, by rw [List.getElem?_map, h5, Option.map_some, ht]; rfl⟩
          rw [← hρ, ht]
          rfl
        rw [kvs_fst] at d9
        simp only [tNil]
        refine cv_all [v9] _ _ H9 _ (.cons d9 .nil) (gAll_map (fun s => decide (s ∈ sts)) _) fun v10 H10 s10 d10 => ?_
        refine ⟨_, dp_bl d10, ?_⟩
        have s710 := s9.trans s10
        have eA : (((inf c.lo c.hi).map (fun i' => tOf (beatS c.w sts[i] i'))).all fun s => decide (s ∈ sts)) = (inf c.lo c.hi).all (fun i' => isIn sts (beatS c.w sts[i] i')) := by
          rw [List.all_map]
          have : ∀ l : List Int, (∀ b ∈ l, ∃ t, beatS c.w sts[i] b = .st t) → l.all ((fun s => decide (s ∈ sts)) ∘ fun i' => tOf (beatS c.w sts[i] i')) = l.all fun i' => isIn sts (beatS c.w sts[i] i') := by
            intro l
            induction l with
            | nil => intro _; rfl
            | cons b l ih =>
              intro hl
              obtain ⟨t, ht⟩ := hl b List.mem_cons_self
              rw [List.all_cons, List.all_cons, ih fun b' hb' => hl b' (List.mem_cons_of_mem _ hb')]
              congr 1
              show decide (tOf (beatS c.w sts[i] b) ∈ sts) = isIn sts (beatS c.w sts[i] b)
              rw [ht]
              rfl
          exact this _ cl
        rw [eA]
        cases hb2 : (inf c.lo c.hi).all (fun i' => isIn sts (beatS c.w sts[i] i')) with
        | false =>
          have : okTable c n sts = false := by
            rw [okE, List.all_eq_false]
            exact ⟨sts[i], hsm, by rw [hb2]; decide⟩
          refine iteT ?_
          rw [this] at q
          exact q _ _ (((sall.trans s46).trans s7).trans s710) (.bl _)
        | true =>
          refine iteF ?_
          refine ⟨s7.trans s710, env_forget (v8.same s710) no4, k8, fun s hs => ?_⟩
          rw [List.take_add_one, List.getElem?_eq_getElem hil] at hs
          rcases List.mem_append.mp hs with h | h
          · exact all7 s h
          · have : s = sts[i] := by simpa using h
            rw [this]
            exact hb2
      · rintro σ H7 ⟨s7, v7, k7, all7⟩
        rw [lenT, List.take_length] at all7
        have : okTable c n sts = true := by
          rw [okE, List.all_eq_true]
          exact all7
        rw [this] at q
        exact q _ _ ((sall.trans s46).trans s7) (.bl _)
end
end Pm
set_option maxHeartbeats 4000000
/-! EX: BadPaper, made: super().__init__('..') and self.part = part -/
namespace PySem
namespace BadX
open PySem.W PySem.Calls PyProof.Rows PySem.HandSPX
/-- what the written part says of BadPaper, at C, and of its __init__, at fI -/
structure BadTxt (prog : Program) (K : Frag) (mg : Str → Option Value) (C fI : Addr) : Prop where
  gC : mg "BadPaper" = some (.ref C)
  gS : mg "super" = none
  cls : ∃ nm q N bs bm sn sub ab col dd k0 k1 k2 k3 k5, K.lookup C = some (excClassObj nm q C N bs bm true sn sub ab col dd k0 k1 k2 k3 k5 "ValueError.__new__") ∧ refsVE bm = true
  sa : findIn K (.ref C) "__setattr__" = some (some (.builtin "object.__setattr__"))
  ga : findIn K (.ref C) "__getattribute__" = some (some (.builtin "BaseException.__getattribute__"))
  gg : findIn K (.ref C) "__getattr__" = some none
  noN : findIn K (.ref C) "part" = some none
  iC : findIn K (.ref C) "__init__" = some (some (.ref fI))
  tC : typeIn K (.ref fI) = some (.type "function")
  kC : keepIn K (.ref C) = true
  exC : subIn K (.ref C) (.type "BaseException") = some true
  tyC : typeIn K (.ref C) = some (.type "type")
  hdC : hasDictIn K C = true
  te : exmOne K (.ref C) (.ref C) = some true
  al : ks_superIn K C C "__init__" = some (some (.builtin "ValueError.__init__"))
  opq : nsIn K cStatics "thirdparty.any" = some none
  subC : mroIn K C (.ref C) = some true
  subV : subIn K (.ref C) (.type "ValueError") = some true
  htop : (prog.main.scope.names.lookup ("super" : Str)).isSome = false
  fn : ∃ (oc : Value) (od : Option Addr) (doc pm : Value) (an : Option Addr) (cda : Addr) (ct : Value) (cc : Addr) (osl : Array (Option Value)) (ccl : Value) (cdd : Option Addr) (vs : Array Value) (ccs : Array (Option Value)) (file : Str) (tf : Tok) (cl : Value) (cld : Option Addr) (csl : Array (Option Value)),
    K.lookup fI = some ⟨oc, od, .func (ksFn "__init__" "BadPaper.__init__" (L2.defArgs sIni) (L2.defBody sIni) (L2.defScope sIni) .none .none doc pm an (.ref cda) ct cc), osl⟩ ∧ codeIn K (.ref cda) "BadPaper.__init__" = true ∧
    K.lookup cda = some ⟨ccl, cdd, .fields vs, ccs⟩ ∧ vs[2]? = some (.str file tf) ∧ ((prog.main.file : Str) == file) = true ∧ K.lookup cc = some ⟨cl, cld, .cell (some (.ref C)), csl⟩
/-- what __init__ leaves of a fresh exception at x -/
structure InitEnd (h h' : Heap) (x C dx t1 : Addr) (v : Value) : Prop where
  keep : ∀ b o, b ≠ x → h.get? b = some o → h'.get? b = some o
  obj : h'.get? x = some { cls := .ref C, dict := some dx, data := .fields #[.ref t1, .none, .none, .none, .bool false, .none] }
  dbig : h.objs.size ≤ dx
  dne : dx ≠ x
  ns : h'.Ns1 dx (fun y => if y = "part" then some v else none)
structure OwnMade (h h' : Heap) (e C d : Addr) (v : Value) : Prop where
  keep : ∀ b o, h.get? b = some o → h'.get? b = some o
  new : h.objs.size ≤ e
  obj : ∃ oe vs, h'.get? e = some oe ∧ oe.cls = .ref C ∧ oe.dict = some d ∧ oe.data = .fields vs ∧ vs[1]? = some .none
  dbig : h.objs.size ≤ d
  dne : d ≠ e
  ns : h'.Ns1 d (fun y => if y = "part" then some v else none)
theorem one_size (v : Value) : [v].length ≤ sizeLine := by
  rw [sizeLine_eq]
  exact (by decide : 1 ≤ 16777216)
theorem kept_but {K : Frag} {h h' : Heap} {x : Addr} (X : K.In h) (hx : K.lookup x = none) (k : ∀ b o, b ≠ x → h.get? b = some o → h'.get? b = some o) : K.In h' := fun a o e =>
  k a o (fun z => by rw [z, hx] at e; cases e) (X a o e)
section
variable {prog : Program} {w : World} {A : Around} {E : Value → Shared → Prop} {R : Result → Shared → Prop} {s : Shared} {K : Frag} {mg mb : Str → Option Value} {C fI : Addr}
/-- super().__init__(..) bound, called -/
theorem call_mw {h : Heap} {g : Array GenState} {d : Drawn} {t : Nat} {os : OsState} {nm q : Str} {N : Addr} {bs bm : List Value} {sn : List Str} {sub : List Value} {ab : Bool} {col : Option Bool} {dd : Option Addr} {k0 k1 k2 k3 k5 : Option Value} {u e t0 : Addr} {rest : List Value} {Q : Value → Shared → Prop}
    (hC : h.get? C = some (excClassObj nm q C N bs bm true sn sub ab col dd k0 k1 k2 k3 k5 "ValueError.__new__")) (he : h.get? e = some (excO C t0)) (hu : h.get? u = some (kxs_mw "ValueError.__init__" e)) (hz : rest.length ≤ sizeLine)
    (hq : ∀ h', (∀ b o, b ≠ e → h.get? b = some o → h'.get? b = some o) → h'.get? e = some (excO C h.objs.size) → Q .none ⟨h', g, d, t, os⟩) :
    wpAny (model prog w) A (call (.ref u) rest) Q E ⟨h, g, d, t, os⟩ := by
  refine wpAny_call (codeAny_of_tree ?_)
  show wpAny _ A.in1 (callAny (.ref u) ⟨rest, []⟩) _ _ _
  simp only [callAny]
  refine wpAny_bind (wpAny_load hu ?_)
  simp only [kxs_mw, show (Value.type "method-wrapper" == Value.type "method" || Value.type "method-wrapper" == Value.type "builtin_function_or_method" || Value.type "method-wrapper" == Value.type "method-wrapper") = true by decide, if_true]
  refine KFB.if_so (by decide) ?_
  refine wpAny_bind (check_bound_init F.excBase_ValueError.toExcCallFacts hC he rfl ?_)
  refine wpAny_bind (wpAny_pure (wpAny_pure ?_))
  refine ⟨plainId_quiet F.excBase_ValueError.init.plain _, codeAny_builtin F.excBase_ValueError.initEntry ?_⟩
  exact exc_init_tree (cls := .ref C) (t0 := t0) (dv := none) (c2 := .none) (c3 := .none) (b4 := .bool false) he hz fun h' k e' t' => hq h' k e'
theorem bp_init (T : BadTxt prog K mg C fI) {x t0 : Addr} {v : Value} (X : K.In s.heap) (hlim : s.heap.NoLimit) (hg : s.heap.Ns mainGlobals mg) (hb : s.heap.Ns builtinsNs mb) (hbs : mb "super" = some (.type "super")) (hx : s.heap.get? x = some (excO C t0)) (hnx : K.lookup x = none) (hroom : A.depth < recursionLimit)
    (hq : ∀ h' tk dx t1, InitEnd s.heap h' x C dx t1 v → R (.ok (.ret .none)) { s with heap := h', toks := tk }) :
    codeAny (model prog w) A (.call (.ref fI) ⟨[.ref x, v], []⟩) R s := by
  obtain ⟨oc, od, doc, pm, an, cda, ct, cc, osl, ccl, cdd, vs, ccs, file, tf, cl, cld, csl, ho, hcd, hcode, hvs, hfile, hcell⟩ := T.fn
  obtain ⟨nm, q, N, bs, bm, sn, sub, ab, col, dd, k0, k1, k2, k3, k5, hC, hbm⟩ := T.cls
  have hcl : clsIn K C = some { name := nm, bases := bs, mro := .ref C :: bm, ns := N, qualname := q, hasDict := true, slotNames := sn, subclasses := sub, abstract := ab, collection := col, hasDel := false } := by unfold clsIn; rw [hC] <;> rfl
  have hxC : x ≠ C := fun z => by rw [z, hC] at hnx; cases hnx
  refine ks_codeAny_call_defAt (fd := ksFn "__init__" "BadPaper.__init__" (L2.defArgs sIni) (L2.defBody sIni) (L2.defScope sIni) .none .none doc pm an (.ref cda) ct cc) (body := L2.defBody sIni) (binds := [("self", .ref x), ("part", v)])
    hroom (X _ _ ho) rfl hlim (codeRec_of X hcd) rfl (BindsTo.of_eq (by first | rfl | with_unfolding_all rfl)) (show ∀ x ∈ (L2.defScope sIni).names, x.2 ≠ .cell from by decide +kernel) ?_ (fun h₁ hns hk => ?_) rfl rfl rfl
  · intro y hy
    rcases List.mem_cons.mp hy with rfl | hy
    · rfl
    · rw [List.mem_singleton] at hy
      subst hy
      rfl
  have X₁ : K.In h₁ := X.keeps hk
  have hx₁ := hk _ _ hx
  have hC₁ := X₁ _ _ hC
  obtain ⟨hp0, g, dr, tk, os⟩ := s
  -- super().__init__('no paper that holds')
  refine ks_wpAt_execs_cons (ks_wpAt_Expr_any (ks_wpAt_MethodCall (pl := pure false) (ks_wpAt_super_base rfl rfl rfl rfl (X₁ _ _ ho) rfl rfl rfl (X₁ _ _ hcode) rfl hvs hfile T.htop ?_)))
  refine ks_loadName_global rfl rfl (loadGlobal_builtin (hg.keeps hk) T.gS (hb.keeps hk) hbs ⟨rfl, ?_⟩)
  refine wpAny_loadName_free rfl rfl rfl ⟨_, X₁ _ _ hcell, rfl⟩ ?_
  refine wpAny_loadName_local (v := .ref x) rfl rfl hns (by first | rfl | with_unfolding_all rfl | kernel_rfl) ?_
  refine ks_wpAny_isType_cls hC₁ rfl ⟨rfl, ?_⟩
  refine ks_wpAny_call_super hC₁ rfl hx₁ rfl (fun c e => by cases e) (looks_mroIn X₁ T.subC) (fun h2 e2 k2 => ?_)
  have X₂ : K.In h2 := X₁.keeps k2
  have hx₂ := k2 _ _ hx₁
  have hm := T.al
  unfold ks_superIn at hm
  rw [hcl, Option.bind_some] at hm
  have hI : Looks (model prog w) h2 (isInstance (.ref x) (.type "ValueError")) true := by
    have I : W.InstAt h2 x (excO C t0) C none := ⟨hx₂, rfl, rfl, trivial⟩
    exact I.type.andThen (looks_subIn X₂ T.subV)
  refine kxs_getMethod kxs_ValueError e2 (looks_opaque X₂ T.opq) (l₀ := .ref C :: bm) ?_ rfl X₂ hm hI hxC rfl ?_
  · exact fun A Q E s k q => wpAny_bind ((looks_clsIn X₂ hcl) A _ E s k (wpAny_pure q))
  have hu : (h2.push (kxs_mw "ValueError.__init__" x)).get? h2.objs.size = some (kxs_mw "ValueError.__init__" x) := Heap.get?_push_at rfl rfl
  have k3 : ∀ b o, h2.get? b = some o → (h2.push (kxs_mw "ValueError.__init__" x)).get? b = some o := fun b o e => Heap.get?_push_of_some _ e
  refine kxs_callWith (i := "ValueError.__init__") (x := x) rfl (evalArgs_plain (spliced_more (wpAny_Constant_str (spliced_none ⟨hu, ?_⟩))))
  refine call_mw (k3 _ _ (X₂ _ _ hC)) (k3 _ _ hx₂) hu (one_size _) fun h4 k4 e4 => ?_
  have X₃ : K.In (h2.push (kxs_mw "ValueError.__init__" x)) := X₂.keeps k3
  have X₄ : K.In h4 := kept_but X₃ hnx k4
  have hxL : hp0.objs.size ≠ x := Nat.ne_of_gt (Heap.lt_size hx)
  have hn4 : h4.Ns hp0.objs.size (fun y => ([("self", .ref x), ("part", v)] : List (Str × Value)).reverse.lookup y) := by
    obtain ⟨oL, es, ep, hL, r⟩ := hns
    exact ⟨oL, es, ep, k4 _ _ hxL (k3 _ _ (k2 _ _ hL)), r⟩
  -- self.part = part
  refine wpAt_of_wpAny ?_
  refine wpAny_execs_cons (plainObj_wpAny_Assign_Attribute ?_)
  refine wpAny_Name (wpAny_loadName_local (v := v) rfl rfl hn4 (by first | rfl | with_unfolding_all rfl | kernel_rfl) ?_)
  refine wpAny_Name (wpAny_loadName_local (v := .ref x) rfl rfl hn4 (by first | rfl | with_unfolding_all rfl | kernel_rfl) ?_)
  refine set_plain X₄ (ox := excO C _) (od := none) ⟨e4, rfl, rfl, trivial⟩ T.sa ?_
  refine exc_osa X₄ e4 hcl (show refsVE (.ref C :: bm) = true from hbm) rfl T.noN (fun h5 tk5 dx k5 dn dne hx5 hn5 => ?_)
  show wpAny _ _ (execs _ _) _ _ _
  refine wpAny_execs_nil (hq h5 tk5 dx _ ⟨fun b o hbx e => k5 b o hbx (k4 b o hbx (k3 b o (k2 b o (hk b o e)))), hx5, ?_, dne, hn5⟩)
  exact Nat.le_of_lt (Nat.lt_of_lt_of_le hn4.lt dn)
theorem bp_made (T : BadTxt prog K mg C fI) {v : Value} (X : K.In s.heap) (hlim : s.heap.NoLimit) (hg : s.heap.Ns mainGlobals mg) (hb : s.heap.Ns builtinsNs mb) (hbs : mb "super" = some (.type "super")) (hroom : A.depth + 1 < recursionLimit)
    (hq : ∀ h' tk e d, OwnMade s.heap h' e C d v → R (.ok (.ret (.ref e))) { s with heap := h', toks := tk }) :
    codeAny (model prog w) A (.call (.ref C) ⟨[v], []⟩) R s := by
  obtain ⟨nm, q, N, bs, bm, sn, sub, ab, col, dd, k0, k1, k2, k3, k5, hC, hbm⟩ := T.cls
  obtain ⟨hp, g, dr, tk, os⟩ := s
  have k : ∀ b o, hp.get? b = some o → ((hp.push (kdv_tup [v])).push (excO C hp.objs.size)).get? b = some o := fun b o e => Heap.get?_push_of_some _ (Heap.get?_push_of_some _ e)
  have hget : ((hp.push (kdv_tup [v])).push (excO C hp.objs.size)).get? (hp.objs.size + 1) = some (excO C hp.objs.size) := by heap_get
  have hnx : K.lookup (hp.objs.size + 1) = none := by
    cases e : K.lookup (hp.objs.size + 1) with
    | none => rfl
    | some o =>
      have z : hp.get? (hp.objs.size + 1) = some o := X _ _ e
      exact absurd (Nat.lt_of_succ_lt (Heap.lt_size z)) (Nat.lt_irrefl _)
  refine call_own F.excBase_ValueError (fun X => refsVE_contains X bm hbm) (X _ _ hC) (looks_findIn X T.iC) (fun self => bind_fn X self T.tC) (one_size v) ?_
  refine bp_init (s := ⟨(hp.push (kdv_tup [v])).push (excO C hp.objs.size), g, dr, tk, os⟩) T (X.keeps k) (hlim.keeps k) (hg.keeps k) (hb.keeps k) hbs hget hnx ?_ fun h' tk' dx t1 ⟨k', hx, dn, dne, hns⟩ => ?_
  · show A.depth + 1 < recursionLimit
    exact hroom
  · have old : ∀ b o, hp.get? b = some o → h'.get? b = some o := fun b o e => k' b o (Nat.ne_of_lt (Nat.lt_succ_of_lt (Heap.lt_size e))) (k b o e)
    have z : hp.objs.size + 1 + 1 ≤ dx := by
      first
        | (simpa only [Heap.size_push] using dn)
        | exact dn
        | (have q := dn; rw [Heap.size_push, Heap.size_push] at q; exact q)
    exact ⟨rfl, hq h' tk' (hp.objs.size + 1) dx ⟨old, Nat.le_succ _, ⟨_, _, hx, rfl, rfl, rfl, rfl⟩, Nat.le_trans (Nat.le_trans (Nat.le_succ _) (Nat.le_succ _)) z, dne, hns⟩⟩
end
end BadX
end PySem
namespace L2
open PySem PySem.Spec PyProof.Rows
theorem relO_part {v : V} {v' : Value} (r : RelV v v') (f : Str) : RelO (List.lookup f [(("part" : Str), v)]) (if f = "part" then some v' else none) := by
  by_cases hw : f = "part"
  · subst hw
    rw [if_pos rfl]
    have q : List.lookup ("part" : Str) [(("part" : Str), v)] = some v := by simp [List.lookup]
    rw [q]
    exact r
  · rw [if_neg hw]
    have qw : (f == ("part" : Str)) = false := by simpa using hw
    have q2 : List.lookup f [(("part" : Str), v)] = none := by simp [List.lookup, qw]
    rw [q2]
    trivial
section
variable {X : Cx} {C fI : Addr}
def tMkBad (C : Addr) (ta : TA) : St → Hp → XK → Prop := fun σ H Q => ta σ H fun vs H1 => ∃ v, vs = [v] ∧ ∀ d, H1 d = none → Q (.ref C) (some d) (upd H1 d (.xd [(("part" : Str), v)]))
theorem pmk_bad {a : Expr} {ta : TA} {p pos : Pos} {k : Nat} (T : PySem.BadX.BadTxt X.prog X.K X.mg C fI) (hr : Room k X.A) (ha : PA X [a] ta) (hg : Gl X "BadPaper" := by rfl)
    (he : starEach (a :: []) X.env = (false, eval a X.env) :: starEach [] X.env := by rfl) (hpl : (backTo pos (starEach [] X.env)).any (·.1) = false := by rfl) :
    PMk X (.Call (.Name "BadPaper" p) [a] [] pos) (tMkBad C ta) := by
  intro pins s σ H Q I h
  refine wpAny_Call_Name_kw (ld_glob I hg T.gC ?_)
  refine PySem.W.callWith_K (h₀ := X.base) I.ok.mod.kin T.kC (thn (ha.run pos pins s σ H _ I h) fun us s1 hh => ?_) he hpl
  obtain ⟨vs, H1, I1, r1, v, ev, q1⟩ := hh
  subst ev
  refine ⟨I1.kIn, ?_⟩
  cases r1 with
  | cons rv rn =>
    rename_i v' us'
    cases rn
    show wpAny _ _ (call (.ref C) [v']) _ _ _
    have hlim := I1.nolimit
    have hgl := I1.mod.glob.keeps I1.bk
    obtain ⟨mb, b1, b2⟩ := I1.mod.blt
    have hbl := b1.keeps I1.bk
    have hbs : mb "super" = some (.type "super") := (b2 "super" (by decide)).trans (by decide +kernel)
    obtain ⟨hp, g, dr, tk, os⟩ := s1
    refine wpAny_call (PySem.BadX.bp_made T I1.kIn hlim hgl hbl hbs (by have := hr.dp; omega) fun h' tk' e d M => ?_)
    show MkP X pins σ Q (.ref e) ⟨h', g, dr, tk', os⟩
    obtain ⟨oe, fv, hoe, hc, hd, hdat, h1⟩ := M.obj
    have hns := M.ns
    obtain ⟨G', g1, g2⟩ := restrict h' fun b => decide (b ≠ e)
    have gk : ∀ b, b ≠ e → G'.get? b = h'.get? b := fun b hb => g1 b (decide_eq_true hb)
    have ge : G'.get? e = none := g2 e (by simp)
    have old : ∀ b o, hp.get? b = some o → G'.get? b = some o := fun b o q => (gk b (Nat.ne_of_lt (Nat.lt_of_lt_of_le (Heap.lt_size q) M.new))).trans (M.keep b o q)
    have ob : ObjOk X.prog X.w (upd H1 d (.xd [(("part" : Str), v)])) G' d (.xd [(("part" : Str), v)]) :=
      ⟨_, hns.at (fun o q => (gk d M.dne).trans q), fun f => relO_part rv f⟩
    have J : Inv X pins σ (upd H1 d (.xd [(("part" : Str), v)])) ⟨G', g, dr, tk', os⟩ := I1.laid (t' := tk') old M.dbig ob
    refine ⟨e, oe, fv, ⟨G', g, dr, tk', os⟩, _, .ref C, some d, rfl, J, fun b o q => ?_, ge, hoe, ⟨hc, hd⟩, hdat, h1, ?_, rfl, I1.bare, raises_own T.exC T.tyC, q1 d (I1.hok.fresh M.dbig)⟩
    · by_cases hb : b = e
      · have q' : G'.get? b = some o := q
        rw [hb, ge] at q'; cases q'
      · exact (gk b hb).symm.trans q
    · rw [upd_ne (Ne.symm M.dne)]
      exact I1.hok.fresh M.new
/-- raise BadPaper(e) -/
def tRaiseBad (C : Addr) (W : WX) (ta : TA) : TS := fun _ σ H => tMkBad C ta σ H fun cls d H' => W cls d σ H'
theorem ps_raiseBad {a : Expr} {ta : TA} {W : WX} {p pos pos2 : Pos} {k : Nat} (hc : X.calm = true) (T : PySem.BadX.BadTxt X.prog X.K X.mg C fI) (hr : Room k X.A) (tk : Takes X W) (ha : PA X [a] ta) (hg : Gl X "BadPaper" := by rfl)
    (he : starEach (a :: []) X.env = (false, eval a X.env) :: starEach [] X.env := by rfl) (hpl : (backTo pos (starEach [] X.env)).any (·.1) = false := by rfl) :
    PS X (.Raise (some (.Call (.Name "BadPaper" p) [a] [] pos)) none pos2) (tRaiseBad C W ta) := ps_raise hc tk (pmk_bad T hr ha hg he hpl)
/-- e.part, e the exception that the suite holds -/
def tPartBad (C : Addr) (a : Addr) (cls : Value) (d : Option Addr) (te : TE) : TE := fun σ H Q => te σ H fun x H1 => x = .ref a ∧ cls = .ref C ∧ ∃ (dd : Addr) (v : V), d = some dd ∧ H1 dd = some (.xd [(("part" : Str), v)]) ∧ Q v H1
theorem pe_partBad {a : Addr} {oe : Obj} {cls : Value} {d : Option Addr} {pn : List (Addr × Obj)} {e : Expr} {te : TE} {pos : Pos} (T : PySem.BadX.BadTxt X.prog X.K X.mg C fI) (hz : Zc cls d oe) (hf : ∃ vs, oe.data = .fields vs) (he : PE (X.suite a ((a, oe) :: pn)) e te)
    (hb : attributeBase e "part" X.env (eval e X.env) = eval e X.env := by rfl) :
    PE (X.suite a ((a, oe) :: pn)) (.Attribute e "part" pos) (tPartBad C a cls d te) := by
  refine ⟨fun pins s σ H Q I h => ?_⟩
  refine attr_of hb (thn (he.run pins s σ H _ I h) fun u s1 hh => ?_)
  obtain ⟨x, H1, I1, rx, ex, ec, dd, v, ed, ea, q⟩ := hh
  subst ex
  obtain rfl : u = Value.ref a := rx
  subst ec
  subst ed
  obtain ⟨ha, _⟩ := I1.pin (a, oe) (List.mem_append_left _ List.mem_cons_self)
  obtain ⟨vs, hd⟩ := hf
  have hx : ObjOk X.prog X.w H1 s1.heap dd (.xd [(("part" : Str), v)]) := I1.hok dd _ ea
  obtain ⟨mA, hns, hr⟩ := hx
  obtain ⟨od, ho, hl⟩ := lookIn_ns hns
  have l : List.lookup ("part" : Str) [(("part" : Str), v)] = some v := by simp [List.lookup]
  obtain ⟨u, hu, ru⟩ := RelO.some_of (v := v) (o := mA "part") (by rw [← l]; exact hr "part")
  have J : PySem.W.InstAt s1.heap a oe C (some od) := ⟨ha, hz.1, by unfold PySem.W.notCls; rw [hd] <;> rfl, by rw [hz.2]; exact ho⟩
  exact HandSPX.exc_get I1.kIn J T.ga T.gg T.exC (PySem.W.findObj_own T.hdC T.noN rfl (by rw [hl, hu])) (handed_of ru) ⟨v, H1, I1.tok _, ru, q⟩
end
end L2
set_option maxHeartbeats 4000000
/-! CS: check_safety -/
namespace Pm
open PySem PySem.Spec PyProof.Rows L2
inductive Pap where
  | run (wd : Rs) (lv : Int) (is : List Int)
  | tab (sts : List Sst)
def encPap : Pap → PyData
  | .run wd lv is => .tuple [encR wd, .tuple [.int lv, encI is]]
  | .tab sts => .tuple [.str sSafe, .tuple (sts.map encS)]
def okPap (c : Cl) (n : Option Int) : Pap → Prop
  | .run wd lv is => isWord wd = true ∧ c.frm ≤ lv ∧ lv ≤ c.to ∧ (∀ i ∈ is, c.lo ≤ i ∧ i ≤ c.hi) ∧ is.length ≤ 100000
  | .tab sts => TabOk c n sts
def resPap (c : Cl) (n : Option Int) : Pap → Bool
  | .run wd lv is => decide (is ≠ [] ∧ runR c.w (.st (begS c.w n lv)) is = some wd)
  | .tab sts => okTable c n sts
def wordPap : Pap → Str
  | .run wd _ _ => wordOf wd
  | .tab _ => sSafe
theorem encPap_inj {c c' : Cl} {n n' : Option Int} : ∀ {a b : Pap}, okPap c n a → okPap c' n' b → encPap a = encPap b → a = b
  | .run w1 l1 i1, .run w2 l2 i2, ha, hb, h => by
    unfold encPap at h
    injection h with h
    obtain ⟨h1, h⟩ := inj1 h
    have h2 := (inj1 h).1
    injection h2 with h2
    obtain ⟨h3, h4⟩ := inj1 h2
    have h5 := encI_inj (inj1 h4).1
    injection h3 with h3
    rw [encR_word ha.1, encR_word hb.1] at h1
    injection h1 with h1
    rw [wordOf_inj ha.1 hb.1 h1, h3, h5]
  | .tab s1, .tab s2, _, _, h => by
    unfold encPap at h
    injection h with h
    obtain ⟨_, h⟩ := inj1 h
    have h2 := (inj1 h).1
    injection h2 with h2
    rw [map_enc_inj h2]
  | .run w1 l1 i1, .tab s2, ha, _, h => by
    exfalso
    unfold encPap at h
    injection h with h
    have h1 := (inj1 h).1
    rw [encR_word ha.1] at h1
    injection h1 with h1
    have k1 : sOver ≠ sSafe := by decide +kernel
    have k2 : sDry ≠ sSafe := by decide +kernel
    cases w1 with
    | over => exact k1 h1
    | dry => exact k2 h1
    | st s => cases ha.1
  | .tab s2, .run w1 l1 i1, _, ha, h => by
    exfalso
    unfold encPap at h
    injection h with h
    have h1 := (inj1 h).1
    rw [encR_word ha.1] at h1
    injection h1 with h1
    have k1 : sSafe ≠ sOver := by decide +kernel
    have k2 : sSafe ≠ sDry := by decide +kernel
    cases w1 with
    | over => exact k1 h1
    | dry => exact k2 h1
    | st s => cases ha.1
structure PapOk (c : Cl) (n : Option Int) (p : Pap) : Prop where
  cok : COk c
  num : NumOk n
  ok : okPap c n p
/-- told once: what is asked of the arguments -/
abbrev Ck := {x : Cl × Option Int × Pap // PapOk x.1 x.2.1 x.2.2 ∧ resPap x.1 x.2.1 x.2.2 = true}
theorem inj_Ck : ∀ a b : Ck, ([encC a.1.1, encO a.1.2.1, encPap a.1.2.2] : List PyData) = [encC b.1.1, encO b.1.2.1, encPap b.1.2.2] → a = b := fun a b h => by
  obtain ⟨h1, h⟩ := inj1 h
  obtain ⟨h2, h⟩ := inj1 h
  have h3 := encPap_inj a.2.1.ok b.2.1.ok (inj1 h).1
  exact Subtype.ext (Prod.ext (encC_inj h1) (Prod.ext (encO_inj h2) h3))
noncomputable def g_check_safety : List PyData → Option PyData := mkF (α := Ck) (fun _ => True) (fun x => [encC x.1.1, encO x.1.2.1, encPap x.1.2.2]) (fun x => .str (wordPap x.1.2.2))
theorem g_check_safety_eq {c : Cl} {n : Option Int} {p : Pap} (h : PapOk c n p) (hr : resPap c n p = true) : g_check_safety [encC c, encO n, encPap p] = some (.str (wordPap p)) := mkF_eq (a := ⟨(c, n, p), h, hr⟩) inj_Ck trivial
theorem word_in {c : Cl} {n : Option Int} {p : Pap} (h : okPap c n p) : gNotIn (.str (wordPap p)) (.tuple [.str "over", .str "dry", .str "safe"]) = some (.bool false) := by
  have key : gNotIn (.str sOver) (.tuple [.str "over", .str "dry", .str "safe"]) = some (.bool false) ∧ gNotIn (.str sDry) (.tuple [.str "over", .str "dry", .str "safe"]) = some (.bool false) ∧ gNotIn (.str sSafe) (.tuple [.str "over", .str "dry", .str "safe"]) = some (.bool false) := by
    have hs : SeqAt.shaped (.tuple [.str "over", .str "dry", .str "safe"]) = true := by decide +kernel
    refine ⟨?_, ?_, ?_⟩ <;> · rw [gNotIn_tup, if_pos ⟨by first | exact shaped_over | exact shaped_dry | exact shaped_safe, hs⟩]; exact congrArg (fun b => some (PyData.bool b)) (by decide +kernel)
  cases p with
  | run wd lv is =>
    cases wd with
    | over => exact key.1
    | dry => exact key.2.1
    | st s => cases h.1
  | tab sts => exact key.2.2
theorem ixPap0 {c : Cl} {n : Option Int} {p : Pap} (h : okPap c n p) : gIx (encPap p) (.int 0) = some (.str (wordPap p)) := by
  cases p with
  | run wd lv is => rw [show wordPap (.run wd lv is) = wordOf wd from rfl, ← encR_word h.1]; rfl
  | tab sts => rfl
def isTab : Pap → Bool
  | .run _ _ _ => false
  | .tab _ => true
def sndPap : Pap → PyData
  | .run _ lv is => .tuple [.int lv, encI is]
  | .tab sts => .tuple (sts.map encS)
theorem ixPap1 (p : Pap) : gIx (encPap p) (.int 1) = some (sndPap p) := by cases p <;> rfl
theorem isTup_Pap (p : Pap) : (encPap p).isTuple = true := by cases p <;> rfl
theorem len_Pap (p : Pap) : gLen [encPap p] = some (.int 2) := by cases p <;> rfl
section
variable {P : Program} {w : World} {K : PySem.W.Frag} {mg : Str → Option Value} {base : Heap} {C : Addr}
theorem sc_check_safety : FnScope ["claim", "number", "paper", "is_good"] ["claim", "number", "paper"] (defScope (top 55)) := ⟨rfl, rfl, rfl, by decide +kernel, rfl, by decide +kernel, by decide +kernel⟩
def spCheckX (C : Addr) (K : PySem.W.Frag) : Sp := fun vs H Q E => ∃ (c : Cl) (n : Option Int) (p : Pap), DpAll K H vs [encC c, encO n, encPap p] ∧ PapOk c n p ∧ resPap c n p = false ∧ ∀ H' d, Same H H' → H' d = none → E (.ref C) (some d) (upd H' d (.xd [("part", .str (wordPap p))]))
theorem eqv_safe {c : Cl} {n : Option Int} {p : Pap} (h : okPap c n p) : PyData.eqv (.str (wordPap p)) (.str "safe") = isTab p := by
  have k1 : PyData.eqv (.str sOver) (.str "safe") = false := by decide +kernel
  have k2 : PyData.eqv (.str sDry) (.str "safe") = false := by decide +kernel
  have k3 : PyData.eqv (.str sSafe) (.str "safe") = true := by decide +kernel
  cases p with
  | run wd lv is =>
    cases wd with
    | over => exact k1
    | dry => exact k2
    | st s => cases h.1
  | tab sts => exact k3
theorem shaped_word {c : Cl} {n : Option Int} {p : Pap} (h : okPap c n p) : SeqAt.shaped (.str (wordPap p)) = true := by
  cases p with
  | run wd lv is =>
    cases wd with
    | over => exact shaped_over
    | dry => exact shaped_dry
    | st s => cases h.1
  | tab sts => exact shaped_safe
theorem good_eq {c : Cl} {n : Option Int} {p : Pap} (hP : PapOk c n p) : (if isTab p = true then g_is_table [encC c, encO n, sndPap p] else g_is_run [encC c, encO n, .str (wordPap p), sndPap p]) = some (.bool (resPap c n p)) := by
  cases p with
  | run wd lv is =>
    rw [show isTab (.run wd lv is) = false from rfl, if_neg Bool.false_ne_true, show wordPap (.run wd lv is) = wordOf wd from rfl, ← encR_word hP.ok.1]
    exact g_is_run_eq hP.cok n hP.ok.1 hP.ok.2.1 hP.ok.2.2.1 hP.ok.2.2.2.1 hP.ok.2.2.2.2
  | tab sts =>
    rw [show isTab (.tab sts) = true from rfl, if_pos rfl]
    exact g_is_table_eq hP.ok
theorem ok_check_safety0 {a : Addr} {fd : FuncData} (F : Fun K "check_safety" "check_safety" (top 55) a fd) (T : Tx mg) (D_need_claim : FnD P w K mg base 3 "need_claim" g_need_claim) (D_need_number : FnD P w K mg base 3 "need_number" g_need_number) (D_is_table : FnD P w K mg base 4 "is_table" g_is_table) (D_is_run : FnD P w K mg base 4 "is_run" g_is_run) : FnOk P w K mg base CX0 5 a fd ["claim", "number", "paper"] (spF g_check_safety K) := by
  refine okD F sc_check_safety ?_ ?_ (fun cdv A outer s H E hr =>
    (ss_cons (s_exp (d_call D_need_claim (hr.mono (by decide)) (da_cons (pd 0) da_nil)))
    (ss_cons (s_exp (d_call D_need_number (hr.mono (by decide)) (da_cons (pd 1) da_nil)))
    (ss_cons (s_if (PW.pt (w_or (t_not (t_val (d_isa (T := "tuple") (pd 2) T.b_isinstance T.b_tuple (hT := bt_tuple)))) (w_or (t_cmp (op_neD hr.units) (ov_ne) (d_callB cv_len call_lenP T.b_len (da_cons (pd 2) da_nil) (hv := bt_len)) d_int (nomark _)) (w_or1 (t_not (t_val (d_isa (T := "str") (d_ix (pd 2) d_int) T.b_isinstance T.b_str (hT := bt_str)))))))) (ss_one s_never) ss_nil)
    (ss_cons (s_if (t_cmp (op_notInT hr.u66) (ov_notIn) (d_ix (pd 2) d_int) (d_tup (da_cons (d_gstr T.c_OVER) (da_cons (d_gstr T.c_DRY) (da_cons (d_gstr T.c_SAFE) da_nil)))) (by rfl)) (ss_one s_never) ss_nil)
    (ss_cons (s_set 3 sc_check_safety.nd (d_if (t_cmp (op_eqD hr.units) (ov_eq) (d_ix (pd 2) d_int) (d_gstr T.c_SAFE) (nomark _)) (d_call D_is_table (hr.mono (by decide)) (da_cons (pd 0) (da_cons (pd 1) (da_cons (d_ix (pd 2) d_int) da_nil)))) (d_call D_is_run (hr.mono (by decide)) (da_cons (pd 0) (da_cons (pd 1) (da_cons (d_ix (pd 2) d_int) (da_cons (d_ix (pd 2) d_int) da_nil)))))))
    (ss_cons (s_if (t_not (t_val (pd 3))) (ss_one s_never) ss_nil)
    (ss_one (s_ret (d_ix (pd 2) d_int))))))))))
  · intro ds d h
    obtain ⟨x, hP, rfl, rfl⟩ := mkF_some h
    rfl
  · intro ds d h
    obtain ⟨⟨⟨c, n, p⟩, hP, hR⟩, _, rfl, rfl⟩ := mkF_some h
    left
    simp only at hP hR
    have e1 := g_need_claim_eq hP.cok
    have e2 := g_need_number_eq hP.num
    have e3 := ixPap0 hP.ok
    have e4 := word_in hP.ok
    have e5 := eqv_safe hP.ok
    have e6 := shaped_word hP.ok
    have e7 := good_eq hP
    have e8 : SeqAt.shaped (.str "safe") = true := shaped_safe
    have e10 := ixPap1 p
    rw [hR] at e7
    simp -implicitDefEqProofs only [startD, sSeq, sSet, sRet, sIf, sSkip, sNever, sAsgG, sPar, fTup, f2, fSl, fPart, fNoPart, fVar, fC, fCons, fNil, fIf, fT, fCall, fIsa, fOrT, fAndT, fNotT, fAnd, fLc, fRng, fZip, fItemsT, fItemsL, List.map_cons, List.map_nil, List.length_cons, List.length_nil, List.replicate, List.cons_append, List.nil_append, List.getElem?_cons_zero, List.getElem?_cons_succ, List.set_cons_zero, List.set_cons_succ, Option.join_some, Option.join_none, Option.bind_some, Option.map_some, thenR_nx, thenR_rt, asI_int, asB_bool, gAdd_int, gSub_int, gMul_int, gCmpI_int, zBig, Nat.reduceAdd, Nat.reduceLeDiff, Nat.reduceSub, ite_true, ite_false, Bool.false_eq_true, decide_true, decide_false, gIs_none, decide_eq_true_eq, isD_tuple, isD_str, isD_int, isD_bool, isTuple_tuple, Bool.not_true, Bool.not_false, asTup_tup, asLst_lst, asRng_int, asZip_tup, wipeD, gNe, gEq, shaped_int, shaped_bool, shaped_none, and_self, condB_bool, e1, e2, isTup_Pap, len_Pap, eqv_int, e3, isStr_str, e4, sExp, bne, beq_self_eq_true, e5, e6, e8, e10]
    rw [e7]
    simp -implicitDefEqProofs only [startD, sSeq, sSet, sRet, sIf, sSkip, sNever, sAsgG, sPar, fTup, f2, fSl, fPart, fNoPart, fVar, fC, fCons, fNil, fIf, fT, fCall, fIsa, fOrT, fAndT, fNotT, fAnd, fLc, fRng, fZip, fItemsT, fItemsL, List.map_cons, List.map_nil, List.length_cons, List.length_nil, List.replicate, List.cons_append, List.nil_append, List.getElem?_cons_zero, List.getElem?_cons_succ, List.set_cons_zero, List.set_cons_succ, Option.join_some, Option.join_none, Option.bind_some, Option.map_some, thenR_nx, thenR_rt, asI_int, asB_bool, gAdd_int, gSub_int, gMul_int, gCmpI_int, zBig, Nat.reduceAdd, Nat.reduceLeDiff, Nat.reduceSub, ite_true, ite_false, Bool.false_eq_true, decide_true, decide_false, gIs_none, decide_eq_true_eq, isD_tuple, isD_str, isD_int, isD_bool, isTuple_tuple, Bool.not_true, Bool.not_false, asTup_tup, asLst_lst, asRng_int, asZip_tup, wipeD, gNe, gEq, shaped_int, shaped_bool, shaped_none, and_self, condB_bool, e3]
theorem ok_check_safetyX {a fI : Addr} {fd : FuncData} (F : Fun K "check_safety" "check_safety" (top 55) a fd) (T : Tx mg) (B : PySem.BadX.BadTxt P K mg C fI) (D_need_claim : FnD P w K mg base 3 "need_claim" g_need_claim) (D_need_number : FnD P w K mg base 3 "need_number" g_need_number) (D_is_table : FnD P w K mg base 4 "is_table" g_is_table) (D_is_run : FnD P w K mg base 4 "is_run" g_is_run) : FnOk P w K mg base (L2.CX P w) 5 a fd ["claim", "number", "paper"] (spCheckX C K) := by
  refine F.okX sc_check_safety (fun vs H Q E h => ?_) (fun cdv A outer s H vs Q E hr h => ?_)
  · obtain ⟨c, n, p, h1, _⟩ := h
    exact h1.length
  · obtain ⟨c, n, p, h1, hP, hR, q⟩ := h
    refine ⟨_, pss_cons (s_exp (d_call D_need_claim (hr.mono (by decide)) (da_cons (pd 0) da_nil)))
      (pss_cons (s_exp (d_call D_need_number (hr.mono (by decide)) (da_cons (pd 1) da_nil)))
      (pss_cons (s_if (PW.pt (w_or (t_not (t_val (d_isa (T := "tuple") (pd 2) T.b_isinstance T.b_tuple (hT := bt_tuple)))) (w_or (t_cmp (op_neD hr.units) (ov_ne) (d_callB cv_len call_lenP T.b_len (da_cons (pd 2) da_nil) (hv := bt_len)) d_int (nomark _)) (w_or1 (t_not (t_val (d_isa (T := "str") (d_ix (pd 2) d_int) T.b_isinstance T.b_str (hT := bt_str)))))))) (ss_one s_never) ss_nil)
      (pss_cons (s_if (t_cmp (op_notInT hr.u66) (ov_notIn) (d_ix (pd 2) d_int) (d_tup (da_cons (d_gstr T.c_OVER) (da_cons (d_gstr T.c_DRY) (da_cons (d_gstr T.c_SAFE) da_nil)))) (by rfl)) (ss_one s_never) ss_nil)
      (pss_cons (s_set 3 sc_check_safety.nd (d_if (t_cmp (op_eqD hr.units) (ov_eq) (d_ix (pd 2) d_int) (d_gstr T.c_SAFE) (nomark _)) (d_call D_is_table (hr.mono (by decide)) (da_cons (pd 0) (da_cons (pd 1) (da_cons (d_ix (pd 2) d_int) da_nil)))) (d_call D_is_run (hr.mono (by decide)) (da_cons (pd 0) (da_cons (pd 1) (da_cons (d_ix (pd 2) d_int) (da_cons (d_ix (pd 2) d_int) da_nil)))))))
      (pss_cons (ps_if (t_not (t_val (pd 3))) (pss_one (ps_raiseBad rfl B hr (takes_of rfl rfl rfl rfl) (pa_cons (d_ix (pd 2) d_int) pa_nil))) pss_nil)
      (pss_one ps_never)))))), ?_⟩
    have e1 := g_need_claim_eq hP.cok
    have e2 := g_need_number_eq hP.num
    have e3 := ixPap0 hP.ok
    have e4 := word_in hP.ok
    have e5 := eqv_safe hP.ok
    have e6 := shaped_word hP.ok
    have e7 := good_eq hP
    have e8 : SeqAt.shaped (.str "safe") = true := shaped_safe
    have e10 := ixPap1 p
    obtain ⟨vc, vn, vp, rfl, dc, dn, dp⟩ := dpa3 h1
    have env0 : EnvD K H (L2.start ["claim", "number", "paper", "is_good"] [vc, vn, vp]) [some (encC c), some (encO n), some (encPap p), none] := env_c dc (env_c dn (env_c dp (env_no env_nil)))
    refine ⟨_, .nx [some (encC c), some (encO n), some (encPap p), none], env0, ?_, fun ρ' e9 σ1 H1 s1 v1 => ?_, fun d e9 => (nomatch e9)⟩
    · simp -implicitDefEqProofs only [startD, sSeq, sSet, sRet, sIf, sSkip, sNever, sAsgG, sPar, fTup, f2, fSl, fPart, fNoPart, fVar, fC, fCons, fNil, fIf, fT, fCall, fIsa, fOrT, fAndT, fNotT, fAnd, fLc, fRng, fZip, fItemsT, fItemsL, List.map_cons, List.map_nil, List.length_cons, List.length_nil, List.replicate, List.cons_append, List.nil_append, List.getElem?_cons_zero, List.getElem?_cons_succ, List.set_cons_zero, List.set_cons_succ, Option.join_some, Option.join_none, Option.bind_some, Option.map_some, thenR_nx, thenR_rt, asI_int, asB_bool, gAdd_int, gSub_int, gMul_int, gCmpI_int, zBig, Nat.reduceAdd, Nat.reduceLeDiff, Nat.reduceSub, ite_true, ite_false, Bool.false_eq_true, decide_true, decide_false, gIs_none, decide_eq_true_eq, isD_tuple, isD_str, isD_int, isD_bool, isTuple_tuple, Bool.not_true, Bool.not_false, asTup_tup, asLst_lst, asRng_int, asZip_tup, wipeD, gNe, gEq, shaped_int, shaped_bool, shaped_none, and_self, condB_bool, e1, sExp]
    cases e9
    refine ⟨_, .nx [some (encC c), some (encO n), some (encPap p), none], v1, ?_, fun ρ' e9 σ2 H2 s2 v2 => ?_, fun d e9 => (nomatch e9)⟩
    · simp -implicitDefEqProofs only [startD, sSeq, sSet, sRet, sIf, sSkip, sNever, sAsgG, sPar, fTup, f2, fSl, fPart, fNoPart, fVar, fC, fCons, fNil, fIf, fT, fCall, fIsa, fOrT, fAndT, fNotT, fAnd, fLc, fRng, fZip, fItemsT, fItemsL, List.map_cons, List.map_nil, List.length_cons, List.length_nil, List.replicate, List.cons_append, List.nil_append, List.getElem?_cons_zero, List.getElem?_cons_succ, List.set_cons_zero, List.set_cons_succ, Option.join_some, Option.join_none, Option.bind_some, Option.map_some, thenR_nx, thenR_rt, asI_int, asB_bool, gAdd_int, gSub_int, gMul_int, gCmpI_int, zBig, Nat.reduceAdd, Nat.reduceLeDiff, Nat.reduceSub, ite_true, ite_false, Bool.false_eq_true, decide_true, decide_false, gIs_none, decide_eq_true_eq, isD_tuple, isD_str, isD_int, isD_bool, isTuple_tuple, Bool.not_true, Bool.not_false, asTup_tup, asLst_lst, asRng_int, asZip_tup, wipeD, gNe, gEq, shaped_int, shaped_bool, shaped_none, and_self, condB_bool, e2, sExp]
    cases e9
    refine ⟨_, .nx [some (encC c), some (encO n), some (encPap p), none], v2, ?_, fun ρ' e9 σ3 H3 s3 v3 => ?_, fun d e9 => (nomatch e9)⟩
    · simp -implicitDefEqProofs only [startD, sSeq, sSet, sRet, sIf, sSkip, sNever, sAsgG, sPar, fTup, f2, fSl, fPart, fNoPart, fVar, fC, fCons, fNil, fIf, fT, fCall, fIsa, fOrT, fAndT, fNotT, fAnd, fLc, fRng, fZip, fItemsT, fItemsL, List.map_cons, List.map_nil, List.length_cons, List.length_nil, List.replicate, List.cons_append, List.nil_append, List.getElem?_cons_zero, List.getElem?_cons_succ, List.set_cons_zero, List.set_cons_succ, Option.join_some, Option.join_none, Option.bind_some, Option.map_some, thenR_nx, thenR_rt, asI_int, asB_bool, gAdd_int, gSub_int, gMul_int, gCmpI_int, zBig, Nat.reduceAdd, Nat.reduceLeDiff, Nat.reduceSub, ite_true, ite_false, Bool.false_eq_true, decide_true, decide_false, gIs_none, decide_eq_true_eq, isD_tuple, isD_str, isD_int, isD_bool, isTuple_tuple, Bool.not_true, Bool.not_false, asTup_tup, asLst_lst, asRng_int, asZip_tup, wipeD, gNe, gEq, shaped_int, shaped_bool, shaped_none, and_self, condB_bool, isTup_Pap, len_Pap, eqv_int, e3, isStr_str, bne, beq_self_eq_true]
    cases e9
    refine ⟨_, .nx [some (encC c), some (encO n), some (encPap p), none], v3, ?_, fun ρ' e9 σ4 H4 s4 v4 => ?_, fun d e9 => (nomatch e9)⟩
    · simp -implicitDefEqProofs only [startD, sSeq, sSet, sRet, sIf, sSkip, sNever, sAsgG, sPar, fTup, f2, fSl, fPart, fNoPart, fVar, fC, fCons, fNil, fIf, fT, fCall, fIsa, fOrT, fAndT, fNotT, fAnd, fLc, fRng, fZip, fItemsT, fItemsL, List.map_cons, List.map_nil, List.length_cons, List.length_nil, List.replicate, List.cons_append, List.nil_append, List.getElem?_cons_zero, List.getElem?_cons_succ, List.set_cons_zero, List.set_cons_succ, Option.join_some, Option.join_none, Option.bind_some, Option.map_some, thenR_nx, thenR_rt, asI_int, asB_bool, gAdd_int, gSub_int, gMul_int, gCmpI_int, zBig, Nat.reduceAdd, Nat.reduceLeDiff, Nat.reduceSub, ite_true, ite_false, Bool.false_eq_true, decide_true, decide_false, gIs_none, decide_eq_true_eq, isD_tuple, isD_str, isD_int, isD_bool, isTuple_tuple, Bool.not_true, Bool.not_false, asTup_tup, asLst_lst, asRng_int, asZip_tup, wipeD, gNe, gEq, shaped_int, shaped_bool, shaped_none, and_self, condB_bool, e3, e4]
    cases e9
    refine ⟨_, .nx [some (encC c), some (encO n), some (encPap p), some (.bool (resPap c n p))], v4, ?_, fun ρ' e9 σ5 H5 s5 v5 => ?_, fun d e9 => (nomatch e9)⟩
    · simp -implicitDefEqProofs only [startD, sSeq, sSet, sRet, sIf, sSkip, sNever, sAsgG, sPar, fTup, f2, fSl, fPart, fNoPart, fVar, fC, fCons, fNil, fIf, fT, fCall, fIsa, fOrT, fAndT, fNotT, fAnd, fLc, fRng, fZip, fItemsT, fItemsL, List.map_cons, List.map_nil, List.length_cons, List.length_nil, List.replicate, List.cons_append, List.nil_append, List.getElem?_cons_zero, List.getElem?_cons_succ, List.set_cons_zero, List.set_cons_succ, Option.join_some, Option.join_none, Option.bind_some, Option.map_some, thenR_nx, thenR_rt, asI_int, asB_bool, gAdd_int, gSub_int, gMul_int, gCmpI_int, zBig, Nat.reduceAdd, Nat.reduceLeDiff, Nat.reduceSub, ite_true, ite_false, Bool.false_eq_true, decide_true, decide_false, gIs_none, decide_eq_true_eq, isD_tuple, isD_str, isD_int, isD_bool, isTuple_tuple, Bool.not_true, Bool.not_false, asTup_tup, asLst_lst, asRng_int, asZip_tup, wipeD, gNe, gEq, shaped_int, shaped_bool, shaped_none, and_self, condB_bool, e3, e5, e6, e8, e10]
      rw [e7]
      rfl
    cases e9
    refine ⟨_, true, v5, ?_, fun H6 s6 => ?_⟩
    · rw [hR]
      rfl
    refine iteT ?_
    refine ⟨[some (encC c), some (encO n), some (encPap p), some (.bool (resPap c n p))], .str (wordPap p), v5.same s6, ?_, fun v H7 s7 d7 => ?_⟩
    · simp -implicitDefEqProofs only [startD, sSeq, sSet, sRet, sIf, sSkip, sNever, sAsgG, sPar, fTup, f2, fSl, fPart, fNoPart, fVar, fC, fCons, fNil, fIf, fT, fCall, fIsa, fOrT, fAndT, fNotT, fAnd, fLc, fRng, fZip, fItemsT, fItemsL, List.map_cons, List.map_nil, List.length_cons, List.length_nil, List.replicate, List.cons_append, List.nil_append, List.getElem?_cons_zero, List.getElem?_cons_succ, List.set_cons_zero, List.set_cons_succ, Option.join_some, Option.join_none, Option.bind_some, Option.map_some, thenR_nx, thenR_rt, asI_int, asB_bool, gAdd_int, gSub_int, gMul_int, gCmpI_int, zBig, Nat.reduceAdd, Nat.reduceLeDiff, Nat.reduceSub, ite_true, ite_false, Bool.false_eq_true, decide_true, decide_false, gIs_none, decide_eq_true_eq, isD_tuple, isD_str, isD_int, isD_bool, isTuple_tuple, Bool.not_true, Bool.not_false, asTup_tup, asLst_lst, asRng_int, asZip_tup, wipeD, gNe, gEq, shaped_int, shaped_bool, shaped_none, and_self, condB_bool, e3]
    refine ⟨v, rfl, fun d hd => ?_⟩
    rw [dp_str d7]
    exact q H7 d ((((((s1.trans s2).trans s3).trans s4).trans s5).trans s6).trans s7) hd
end
end Pm
set_option maxHeartbeats 4000000
/-! TX: texts of claims -/
namespace Pm
open PySem PySem.Spec PyProof.Rows L2
/-- a number as a text -/
def dg (i : Int) : Str := toString i
abbrev Fig := {i : Int // 0 ≤ i ∧ i ≤ 9}
theorem fig_cases {Q : Int → Prop} (h0 : Q 0) (h1 : Q 1) (h2 : Q 2) (h3 : Q 3) (h4 : Q 4) (h5 : Q 5) (h6 : Q 6) (h7 : Q 7) (h8 : Q 8) (h9 : Q 9) {i : Int} (a : 0 ≤ i) (b : i ≤ 9) : Q i := by
  rcases (show i = 0 ∨ i = 1 ∨ i = 2 ∨ i = 3 ∨ i = 4 ∨ i = 5 ∨ i = 6 ∨ i = 7 ∨ i = 8 ∨ i = 9 by omega) with rfl | rfl | rfl | rfl | rfl | rfl | rfl | rfl | rfl | rfl <;> assumption
theorem dg_int {i : Int} (a : 0 ≤ i) (b : i ≤ 9) : PySem.intText? (dg i) = some i := by
  refine fig_cases (Q := fun i => PySem.intText? (dg i) = some i) ?_ ?_ ?_ ?_ ?_ ?_ ?_ ?_ ?_ ?_ a b <;> decide +kernel
theorem dg_len {i : Int} (a : 0 ≤ i) (b : i ≤ 9) : (dg i).length = 1 := by
  refine fig_cases (Q := fun i => (dg i).length = 1) ?_ ?_ ?_ ?_ ?_ ?_ ?_ ?_ ?_ ?_ a b <;> decide +kernel
theorem dg_cps {i : Int} (a : 0 ≤ i) (b : i ≤ 9) : (dg i).cps.toList = [48 + i.toNat] := by
  refine fig_cases (Q := fun i => (dg i).cps.toList = [48 + i.toNat]) ?_ ?_ ?_ ?_ ?_ ?_ ?_ ?_ ?_ ?_ a b <;> decide +kernel
theorem dg_log {i : Int} (a : 0 ≤ i) (b : i ≤ 9) : i.natAbs.log2 < 1920 := by
  refine fig_cases (Q := fun i => i.natAbs.log2 < 1920) ?_ ?_ ?_ ?_ ?_ ?_ ?_ ?_ ?_ ?_ a b <;> decide +kernel
theorem dg_in {i : Int} (a : 0 ≤ i) (b : i ≤ 9) : decide ((48 + i.toNat) ∈ ("0123456789" : Str).cps.toList) = true := by
  refine fig_cases (Q := fun i => decide ((48 + i.toNat) ∈ ("0123456789" : Str).cps.toList) = true) ?_ ?_ ?_ ?_ ?_ ?_ ?_ ?_ ?_ ?_ a b <;> decide +kernel
theorem dg_shaped {i : Int} (a : 0 ≤ i) (b : i ≤ 9) : SeqAt.shaped (.str (dg i)) = true := by
  refine fig_cases (Q := fun i => SeqAt.shaped (.str (dg i)) = true) ?_ ?_ ?_ ?_ ?_ ?_ ?_ ?_ ?_ ?_ a b <;> decide +kernel
theorem dg_inj {i j : Int} (a : 0 ≤ i) (b : i ≤ 9) (a' : 0 ≤ j) (b' : j ≤ 9) (h : dg i = dg j) : i = j := by
  have h1 := dg_int a b
  rw [h, dg_int a' b'] at h1
  exact (Option.some.inj h1).symm
theorem eqv_str (x : Str) : PyData.eqv (.str x) (.str x) = true := by rw [PyData.eqv]; simp
theorem inj_Fig : ∀ a b : Fig, ([.str (dg a.1)] : List PyData) = [.str (dg b.1)] → a = b := fun a b h => by
  have h1 := (inj1 h).1
  injection h1 with h1
  exact Subtype.ext (dg_inj a.2.1 a.2.2 b.2.1 b.2.2 h1)
section
variable {P : Program} {w : World} {K : PySem.W.Frag} {mg : Str → Option Value} {base : Heap}
theorem sc_integer_of : FnScope ["word", "sign"] ["word"] (defScope (top 68)) := ⟨rfl, rfl, rfl, by decide +kernel, rfl, by decide +kernel, by decide +kernel⟩
noncomputable def g_integer_of : List PyData → Option PyData := mkF (α := Fig) (fun _ => True) (fun x => [.str (dg x.1)]) (fun x => .int x.1)
theorem g_integer_of_eq {i : Int} (a : 0 ≤ i) (b : i ≤ 9) : g_integer_of [.str (dg i)] = some (.int i) := mkF_eq (a := (⟨i, a, b⟩ : Fig)) inj_Fig trivial
theorem ok_integer_of {a : Addr} {fd : FuncData} (F : Fun K "integer_of" "integer_of" (top 68) a fd) (T : Tx mg) : FnOk P w K mg base CX0 1 a fd ["word"] (spF g_integer_of K) := by
  refine okD F sc_integer_of ?_ ?_ (fun cdv A outer s H E hr =>
    (ss_cons (s_if (PW.pt (w_or (t_not (t_chain op_le (ov_cmpI _) op_le (ov_cmpI _) d_int (d_callB cv_len call_lenP T.b_len (da_cons (pd 0) da_nil) (hv := bt_len)) (d_gint T.c_MOST_FIGURES))) (w_or1 (t_not (t_val (d_callB cv_all (cr_all rfl) T.b_all (da_cons (d_lc (own := [("sign", 1)]) sc_integer_of.nd (i_str (pd 0)) (blkOk_by (N := ["word", "sign"]) (sc := (defScope (top 68))) (by decide +kernel)) (dg_name 1) (by decide) (fun _ _ _ _ _ => (pg_name (i := 1) sc_integer_of.nd rfl (Or.inl rfl))) (fun _ _ _ _ _ => (d_cmp (op_in_sign) (ov_inS) (pd 1) (d_gstr T.c_DIGITS) (by rfl)))) da_nil) (hv := bt_all))))))) (ss_one (s_ret d_non)) ss_nil)
    (ss_one (s_ret (d_if (t_cmp (op_eqD hr.units) (ov_eq) (d_callTy cv_str1 call_str_int T.b_str (da_cons (d_callTy cv_intS call_int_str T.b_int (da_cons (pd 0) da_nil) (hv := bt_int)) da_nil) (hv := bt_str)) (pd 0) (nomark _)) (d_callTy cv_intS call_int_str T.b_int (da_cons (pd 0) da_nil) (hv := bt_int)) d_non)))))
  · intro ds d h
    obtain ⟨x, hP, rfl, rfl⟩ := mkF_some h
    rfl
  · intro ds d h
    obtain ⟨⟨i, ha, hb⟩, hP, rfl, rfl⟩ := mkF_some h
    left
    have e1 := dg_len ha hb
    have e2 : gLen [.str (dg i)] = some (.int 1) := by rw [gLen_str, if_pos (by rw [e1]; decide), e1]; rfl
    have e3 : signsD (dg i) = [.str ⟨#[48 + i.toNat]⟩] := by unfold signsD; rw [dg_cps ha hb]; rfl
    have e4 : gSign (.str ⟨#[48 + i.toNat]⟩) (.str "0123456789") = some (.bool true) := by
      show some (PyData.bool (decide ((48 + i.toNat) ∈ ("0123456789" : Str).cps.toList))) = _
      rw [dg_in ha hb]
    have e5 : gIntS [.str (dg i)] = some (.int i) := by
      show (if (dg i).length ≤ 640 then (PySem.intText? (dg i)).map PyData.int else none) = _
      rw [if_pos (by rw [e1]; decide), dg_int ha hb]
      rfl
    have e6 : gStr1 [.int i] = some (.str (dg i)) := by rw [gStr1_int, if_pos (dg_log ha hb)]; rfl
    have e7 := dg_shaped ha hb
    have e8 : gAll [.list [.bool true]] = some (.bool true) := rfl
    simp -implicitDefEqProofs only [startD, sSeq, sSet, sRet, sIf, sSkip, sNever, sAsgG, sPar, fTup, f2, fSl, fPart, fNoPart, fVar, fC, fCons, fNil, fIf, fT, fCall, fIsa, fOrT, fAndT, fNotT, fAnd, fLc, fRng, fZip, fItemsT, fItemsL, List.map_cons, List.map_nil, List.length_cons, List.length_nil, List.replicate, List.cons_append, List.nil_append, List.getElem?_cons_zero, List.getElem?_cons_succ, List.set_cons_zero, List.set_cons_succ, Option.join_some, Option.join_none, Option.bind_some, Option.map_some, thenR_nx, thenR_rt, asI_int, asB_bool, gAdd_int, gSub_int, gMul_int, gCmpI_int, zBig, Nat.reduceAdd, Nat.reduceLeDiff, Nat.reduceSub, ite_true, ite_false, Bool.false_eq_true, decide_true, decide_false, gIs_none, decide_eq_true_eq, isD_tuple, isD_str, isD_int, isD_bool, isTuple_tuple, Bool.not_true, Bool.not_false, asTup_tup, asLst_lst, asRng_int, asZip_tup, wipeD, gNe, gEq, shaped_int, shaped_bool, shaped_none, and_self, condB_bool, fChain, fItemsS, asStr_str, e2, e3, e4, e5, e6, e7, e8, eqv_str, lcRun, setN, noLAll, noL, Bool.and_self]
    rw [if_pos (by decide), show decide ((1 : Int) ≤ 31) = true from rfl]
    simp -implicitDefEqProofs only [startD, sSeq, sSet, sRet, sIf, sSkip, sNever, sAsgG, sPar, fTup, f2, fSl, fPart, fNoPart, fVar, fC, fCons, fNil, fIf, fT, fCall, fIsa, fOrT, fAndT, fNotT, fAnd, fLc, fRng, fZip, fItemsT, fItemsL, List.map_cons, List.map_nil, List.length_cons, List.length_nil, List.replicate, List.cons_append, List.nil_append, List.getElem?_cons_zero, List.getElem?_cons_succ, List.set_cons_zero, List.set_cons_succ, Option.join_some, Option.join_none, Option.bind_some, Option.map_some, thenR_nx, thenR_rt, asI_int, asB_bool, gAdd_int, gSub_int, gMul_int, gCmpI_int, zBig, Nat.reduceAdd, Nat.reduceLeDiff, Nat.reduceSub, ite_true, ite_false, Bool.false_eq_true, decide_true, decide_false, gIs_none, decide_eq_true_eq, isD_tuple, isD_str, isD_int, isD_bool, isTuple_tuple, Bool.not_true, Bool.not_false, asTup_tup, asLst_lst, asRng_int, asZip_tup, wipeD, gNe, gEq, shaped_int, shaped_bool, shaped_none, and_self, condB_bool, e5, e6, e7, eqv_str]
theorem fn_integer_of {a : Addr} {fd : FuncData} (F : Fun K "integer_of" "integer_of" (top 68) a fd) (T : Tx mg) (hm : mg "integer_of" = some (.ref a)) : FnD P w K mg base 1 "integer_of" g_integer_of :=
  fnD_of F hm (fun _ _ _ _ _ _ us hl => match us, hl with | [_], _ => rfl) (ok_integer_of F T)
/-! ### claims of small figures -/
structure DrC (c : Cl) : Prop extends SmC c where
  drain9 : c.w.drain ≤ 9
  step9 : c.w.step ≤ 9
def cNums (c : Cl) : List (List Int) := [[c.w.top, c.w.drain, c.w.on, c.w.off, c.w.run, c.w.rest, c.w.starts, c.w.step, c.w.lag], [c.lo, c.hi], [c.frm, c.to]]
def lineC (l : List Int) : Str := Txt.join " " (l.map dg)
def txtC (c : Cl) : Str := Txt.join "\n" ((cNums c).map lineC)
theorem encC_nums (c : Cl) : encC c = .tuple ((cNums c).map fun l => .tuple (l.map .int)) := rfl
theorem DrC.figs {c : Cl} (h : DrC c) : ∀ l ∈ cNums c, ∀ i ∈ l, 0 ≤ i ∧ i ≤ 9 := by
  have a := h.w.top; have b := h.w.drain; have d := h.w.on; have e := h.w.off; have f := h.w.run; have g := h.w.rest; have i := h.w.starts; have j := h.w.step; have k := h.w.lag
  have l := h.infl; have m := h.lvs; have n := h.top5; have o := h.run2; have p := h.rest2; have q := h.lag1; have r := h.hi3; have s := h.drain9; have t := h.step9
  intro l hl i hi
  simp [cNums] at hl
  rcases hl with rfl | rfl | rfl <;> simp at hi <;> omega
theorem cNums_len {c : Cl} : ∀ l ∈ cNums c, 2 ≤ l.length ∧ l.length ≤ 9 := by
  intro l hl
  simp [cNums] at hl
  rcases hl with rfl | rfl | rfl <;> simp
theorem dgs_sum : ∀ {l : List Int}, (∀ i ∈ l, 0 ≤ i ∧ i ≤ 9) → ((l.map dg).map (·.length)).sum = l.length
  | [], _ => rfl
  | i :: l, h => by
    have := dgs_sum fun j hj => h j (List.mem_cons_of_mem _ hj)
    obtain ⟨a, b⟩ := h i List.mem_cons_self
    simp only [List.map_cons, List.sum_cons, List.length_cons, dg_len a b, this]
    omega
theorem line_len {l : List Int} (h : ∀ i ∈ l, 0 ≤ i ∧ i ≤ 9) (h2 : l.length ≤ 9) : (lineC l).length ≤ 18 := by
  unfold lineC
  rw [TL.join_eq]
  have h1 := StrLaws.join_length_le " " (l.map dg)
  rw [dgs_sum h, List.length_map] at h1
  have : (" " : Str).length = 1 := by decide +kernel
  rw [this] at h1
  omega
theorem blank_tl : TL.tl (" " : Str) = [32] := by decide +kernel
theorem nl_tl : TL.tl ("\n" : Str) = [10] := by decide +kernel
theorem split_line {l : List Int} (hne : l ≠ []) (h : ∀ i ∈ l, 0 ≤ i ∧ i ≤ 9) : Txt.split (lineC l) " " = l.map dg := by
  refine TL.split_join (s := 32) (S := []) blank_tl (by decide +kernel) (by simpa using hne) fun p hp => ?_
  obtain ⟨i, hi, rfl⟩ := List.mem_map.mp hp
  obtain ⟨a, b⟩ := h i hi
  have e := dg_cps a b
  show 32 ∉ (dg i).cps.toList
  rw [e]
  simp
  omega
theorem join_noNl : ∀ {l : List Int}, (∀ i ∈ l, 0 ≤ i ∧ i ≤ 9) → 10 ∉ TL.joinL [32] ((l.map dg).map TL.tl)
  | [], _ => by simp [TL.joinL]
  | [i], h => by
    obtain ⟨a, b⟩ := h i List.mem_cons_self
    show 10 ∉ (dg i).cps.toList
    rw [dg_cps a b]
    simp
    omega
  | i :: j :: l, h => by
    obtain ⟨a, b⟩ := h i List.mem_cons_self
    have ih := join_noNl (l := j :: l) fun k hk => h k (List.mem_cons_of_mem _ hk)
    show 10 ∉ (dg i).cps.toList ++ ([32] ++ TL.joinL [32] (((j :: l).map dg).map TL.tl))
    rw [dg_cps a b]
    simp only [List.mem_append, not_or]
    refine ⟨by simp; omega, by simp, ih⟩
theorem split_txt {c : Cl} (h : DrC c) : Txt.split (txtC c) "\n" = (cNums c).map lineC := by
  refine TL.split_join (s := 10) (S := []) nl_tl (by decide +kernel) (by simp [cNums]) fun p hp => ?_
  obtain ⟨l, hl, rfl⟩ := List.mem_map.mp hp
  unfold lineC
  rw [TL.join_eq, TL.tl_join, blank_tl]
  exact join_noNl (h.figs l hl)
theorem txt_len {c : Cl} (h : DrC c) : (((cNums c).map lineC).map (·.length)).sum + ((cNums c).map lineC).length * ("\n" : Str).length ≤ 100000 ∧ (txtC c).length + 2 ≤ 100000 := by
  have e1 : ∀ l ∈ cNums c, (lineC l).length ≤ 18 := fun l hl => line_len (h.figs l hl) (cNums_len l hl).2
  have e2 : ("\n" : Str).length = 1 := by decide +kernel
  have h1 := StrLaws.join_length_le "\n" ((cNums c).map lineC)
  unfold txtC
  rw [TL.join_eq]
  rw [e2] at h1 ⊢
  have a := e1 _ (show [c.w.top, c.w.drain, c.w.on, c.w.off, c.w.run, c.w.rest, c.w.starts, c.w.step, c.w.lag] ∈ cNums c by simp [cNums])
  have b := e1 _ (show [c.lo, c.hi] ∈ cNums c by simp [cNums])
  have d := e1 _ (show [c.frm, c.to] ∈ cNums c by simp [cNums])
  have hs : (((cNums c).map lineC).map (·.length)).sum ≤ 54 := by
    simp only [cNums, List.map_cons, List.map_nil, List.sum_cons, List.sum_nil]
    omega
  have hl : ((cNums c).map lineC).length = 3 := by simp [cNums]
  rw [hl] at h1 ⊢
  omega
theorem dgs_inj : ∀ {a b : List Int}, (∀ i ∈ a, 0 ≤ i ∧ i ≤ 9) → (∀ i ∈ b, 0 ≤ i ∧ i ≤ 9) → a.map dg = b.map dg → a = b
  | [], [], _, _, _ => rfl
  | x :: a, y :: b, h1, h2, h => by
    simp only [List.map_cons, List.cons.injEq] at h
    obtain ⟨p1, p2⟩ := h1 x List.mem_cons_self
    obtain ⟨q1, q2⟩ := h2 y List.mem_cons_self
    rw [dg_inj p1 p2 q1 q2 h.1, dgs_inj (fun i hi => h1 i (List.mem_cons_of_mem _ hi)) (fun i hi => h2 i (List.mem_cons_of_mem _ hi)) h.2]
theorem txtC_inj {a b : Cl} (ha : DrC a) (hb : DrC b) (h : txtC a = txtC b) : a = b := by
  have e := split_txt ha
  rw [h, split_txt hb] at e
  simp only [cNums, List.map_cons, List.map_nil, List.cons.injEq, and_true] at e
  obtain ⟨e1, e2, e3⟩ := e
  have key : ∀ {l m : List Int}, l ∈ cNums a → m ∈ cNums b → lineC m = lineC l → l = m := fun {l m} hl hm e => by
    have hl0 : l ≠ [] := fun z => by have := (cNums_len l hl).1; rw [z] at this; simp at this
    have hm0 : m ≠ [] := fun z => by have := (cNums_len m hm).1; rw [z] at this; simp at this
    have q := split_line hl0 (ha.figs l hl)
    rw [← e, split_line hm0 (hb.figs m hm)] at q
    exact dgs_inj (ha.figs l hl) (hb.figs m hm) q.symm
  have f1 := key (by simp [cNums]) (by simp [cNums]) e1
  have f2 := key (by simp [cNums]) (by simp [cNums]) e2
  have f3 := key (by simp [cNums]) (by simp [cNums]) e3
  obtain ⟨wa, _, _, _, _⟩ := a
  obtain ⟨wb, _, _, _, _⟩ := b
  cases wa
  cases wb
  simp at f1 f2 f3
  simp [f1, f2, f3]
abbrev Dc := {c : Cl // DrC c}
theorem inj_Dc : ∀ a b : Dc, ([encC a.1] : List PyData) = [encC b.1] → a = b := fun a b h => Subtype.ext (encC_inj (inj1 h).1)
theorem inj_Dt : ∀ a b : Dc, ([.str (txtC a.1)] : List PyData) = [.str (txtC b.1)] → a = b := fun a b h => by
  have h1 := (inj1 h).1
  injection h1 with h1
  exact Subtype.ext (txtC_inj a.2 b.2 h1)
theorem sc_claim_text : FnScope ["claim", "part", "number"] ["claim"] (defScope (top 69)) := ⟨rfl, rfl, rfl, by decide +kernel, rfl, by decide +kernel, by decide +kernel⟩
noncomputable def g_claim_text : List PyData → Option PyData := mkF (α := Dc) (fun _ => True) (fun x => [encC x.1]) (fun x => .str (txtC x.1))
theorem g_claim_text_eq {c : Cl} (h : DrC c) : g_claim_text [encC c] = some (.str (txtC c)) := mkF_eq (a := (⟨c, h⟩ : Dc)) inj_Dc trivial
theorem ok_claim_text {a : Addr} {fd : FuncData} (F : Fun K "claim_text" "claim_text" (top 69) a fd) (T : Tx mg) (D_need_claim : FnD P w K mg base 3 "need_claim" g_need_claim) : FnOk P w K mg base CX0 4 a fd ["claim"] (spF g_claim_text K) := by
  refine okD F sc_claim_text ?_ ?_ (fun cdv A outer s H E hr =>
    (ss_cons (s_exp (d_call D_need_claim (hr.mono (by decide)) (da_cons (pd 0) da_nil)))
    (ss_one (s_ret (d_join (d_gstr T.c_LINE_END) (d_lc (own := [("part", 1)]) sc_claim_text.nd (i_tup (pd 0)) (blkOk_by (N := ["claim", "part", "number"]) (sc := (defScope (top 69))) (by decide +kernel)) (dg_name 1) (by decide) (fun _ _ _ _ _ => (pg_name (i := 1) sc_claim_text.nd rfl (Or.inl rfl))) (fun _ _ _ _ _ => (d_join (d_gstr T.c_BLANK) (d_lc (own := [("number", 2)]) sc_claim_text.nd (i_tup (pd 1)) (blkOk_by (N := ["claim", "part", "number"]) (sc := (relS _ (defScope (top 69)))) (by decide +kernel)) (dg_name 2) (by decide) (fun _ _ _ _ _ => (pg_name (i := 2) sc_claim_text.nd rfl (Or.inl rfl))) (fun _ _ _ _ _ => (d_callTy cv_str1 call_str_int T.b_str (da_cons (pd 2) da_nil) (hv := bt_str))))))))))))
  · intro ds d h
    obtain ⟨x, hP, rfl, rfl⟩ := mkF_some h
    rfl
  · intro ds d h
    obtain ⟨⟨c, hc⟩, hP, rfl, rfl⟩ := mkF_some h
    left
    have e1 := g_need_claim_eq hc.toCOk
    have hl := txt_len hc
    have c3 : (cNums c).length ≤ 100000 := by show 3 ≤ 100000; decide
    simp -implicitDefEqProofs only [startD, sSeq, sSet, sRet, sIf, sSkip, sNever, sAsgG, sPar, fTup, f2, fSl, fPart, fNoPart, fVar, fC, fCons, fNil, fIf, fT, fCall, fIsa, fOrT, fAndT, fNotT, fAnd, fLc, fRng, fZip, fItemsT, fItemsL, List.map_cons, List.map_nil, List.length_cons, List.length_nil, List.replicate, List.cons_append, List.nil_append, List.getElem?_cons_zero, List.getElem?_cons_succ, List.set_cons_zero, List.set_cons_succ, Option.join_some, Option.join_none, Option.bind_some, Option.map_some, thenR_nx, thenR_rt, asI_int, asB_bool, gAdd_int, gSub_int, gMul_int, gCmpI_int, zBig, Nat.reduceAdd, Nat.reduceLeDiff, Nat.reduceSub, ite_true, ite_false, Bool.false_eq_true, decide_true, decide_false, gIs_none, decide_eq_true_eq, isD_tuple, isD_str, isD_int, isD_bool, isTuple_tuple, Bool.not_true, Bool.not_false, asTup_tup, asLst_lst, asRng_int, asZip_tup, wipeD, gNe, gEq, shaped_int, shaped_bool, shaped_none, and_self, condB_bool, sExp, e1]
    rw [encC_nums, asTup_tup]
    simp -implicitDefEqProofs only [startD, sSeq, sSet, sRet, sIf, sSkip, sNever, sAsgG, sPar, fTup, f2, fSl, fPart, fNoPart, fVar, fC, fCons, fNil, fIf, fT, fCall, fIsa, fOrT, fAndT, fNotT, fAnd, fLc, fRng, fZip, fItemsT, fItemsL, List.map_cons, List.map_nil, List.length_cons, List.length_nil, List.replicate, List.cons_append, List.nil_append, List.getElem?_cons_zero, List.getElem?_cons_succ, List.set_cons_zero, List.set_cons_succ, Option.join_some, Option.join_none, Option.bind_some, Option.map_some, thenR_nx, thenR_rt, asI_int, asB_bool, gAdd_int, gSub_int, gMul_int, gCmpI_int, zBig, Nat.reduceAdd, Nat.reduceLeDiff, Nat.reduceSub, ite_true, ite_false, Bool.false_eq_true, decide_true, decide_false, gIs_none, decide_eq_true_eq, isD_tuple, isD_str, isD_int, isD_bool, isTuple_tuple, Bool.not_true, Bool.not_false, asTup_tup, asLst_lst, asRng_int, asZip_tup, wipeD, gNe, gEq, shaped_int, shaped_bool, shaped_none, and_self, condB_bool, List.length_map, c3]
    rw [lcRun_map (g := fun l => .str (lineC l)) fun l hm => ⟨_, rfl, ?_⟩]
    · have e3 : noLAll ((cNums c).map fun l => PyData.str (lineC l)) = true := noL_map (fun _ => rfl) _
      have e4 : ((cNums c).map fun l => PyData.str (lineC l)) = ((cNums c).map lineC).map PyData.str := by rw [List.map_map]; rfl
      simp -implicitDefEqProofs only [startD, sSeq, sSet, sRet, sIf, sSkip, sNever, sAsgG, sPar, fTup, f2, fSl, fPart, fNoPart, fVar, fC, fCons, fNil, fIf, fT, fCall, fIsa, fOrT, fAndT, fNotT, fAnd, fLc, fRng, fZip, fItemsT, fItemsL, List.map_cons, List.map_nil, List.length_cons, List.length_nil, List.replicate, List.cons_append, List.nil_append, List.getElem?_cons_zero, List.getElem?_cons_succ, List.set_cons_zero, List.set_cons_succ, Option.join_some, Option.join_none, Option.bind_some, Option.map_some, thenR_nx, thenR_rt, asI_int, asB_bool, gAdd_int, gSub_int, gMul_int, gCmpI_int, zBig, Nat.reduceAdd, Nat.reduceLeDiff, Nat.reduceSub, ite_true, ite_false, Bool.false_eq_true, decide_true, decide_false, gIs_none, decide_eq_true_eq, isD_tuple, isD_str, isD_int, isD_bool, isTuple_tuple, Bool.not_true, Bool.not_false, asTup_tup, asLst_lst, asRng_int, asZip_tup, wipeD, gNe, gEq, shaped_int, shaped_bool, shaped_none, and_self, condB_bool, e3]
      rw [e4, gJoin_str, L2.strs_map, Option.bind_some, if_pos (show _ ≤ zBig from hl.1)]
      rfl
    · have hf := hc.figs l hm
      have hn := (cNums_len l hm).2
      have c4 : l.length ≤ 100000 := by omega
      simp -implicitDefEqProofs only [startD, sSeq, sSet, sRet, sIf, sSkip, sNever, sAsgG, sPar, fTup, f2, fSl, fPart, fNoPart, fVar, fC, fCons, fNil, fIf, fT, fCall, fIsa, fOrT, fAndT, fNotT, fAnd, fLc, fRng, fZip, fItemsT, fItemsL, List.map_cons, List.map_nil, List.length_cons, List.length_nil, List.replicate, List.cons_append, List.nil_append, List.getElem?_cons_zero, List.getElem?_cons_succ, List.set_cons_zero, List.set_cons_succ, Option.join_some, Option.join_none, Option.bind_some, Option.map_some, thenR_nx, thenR_rt, asI_int, asB_bool, gAdd_int, gSub_int, gMul_int, gCmpI_int, zBig, Nat.reduceAdd, Nat.reduceLeDiff, Nat.reduceSub, ite_true, ite_false, Bool.false_eq_true, decide_true, decide_false, gIs_none, decide_eq_true_eq, isD_tuple, isD_str, isD_int, isD_bool, isTuple_tuple, Bool.not_true, Bool.not_false, asTup_tup, asLst_lst, asRng_int, asZip_tup, wipeD, gNe, gEq, shaped_int, shaped_bool, shaped_none, and_self, condB_bool, setN, List.length_map, c4]
      rw [lcRun_map (g := fun i => .str (dg i)) fun i hi => ⟨_, rfl, ?_⟩]
      · have e3 : noLAll (l.map fun i => PyData.str (dg i)) = true := noL_map (fun _ => rfl) _
        have e4 : (l.map fun i => PyData.str (dg i)) = (l.map dg).map PyData.str := by rw [List.map_map]; rfl
        simp -implicitDefEqProofs only [startD, sSeq, sSet, sRet, sIf, sSkip, sNever, sAsgG, sPar, fTup, f2, fSl, fPart, fNoPart, fVar, fC, fCons, fNil, fIf, fT, fCall, fIsa, fOrT, fAndT, fNotT, fAnd, fLc, fRng, fZip, fItemsT, fItemsL, List.map_cons, List.map_nil, List.length_cons, List.length_nil, List.replicate, List.cons_append, List.nil_append, List.getElem?_cons_zero, List.getElem?_cons_succ, List.set_cons_zero, List.set_cons_succ, Option.join_some, Option.join_none, Option.bind_some, Option.map_some, thenR_nx, thenR_rt, asI_int, asB_bool, gAdd_int, gSub_int, gMul_int, gCmpI_int, zBig, Nat.reduceAdd, Nat.reduceLeDiff, Nat.reduceSub, ite_true, ite_false, Bool.false_eq_true, decide_true, decide_false, gIs_none, decide_eq_true_eq, isD_tuple, isD_str, isD_int, isD_bool, isTuple_tuple, Bool.not_true, Bool.not_false, asTup_tup, asLst_lst, asRng_int, asZip_tup, wipeD, gNe, gEq, shaped_int, shaped_bool, shaped_none, and_self, condB_bool, e3]
        rw [e4, gJoin_str, L2.strs_map, Option.bind_some, if_pos]
        · rfl
        · rw [dgs_sum hf, List.length_map, show (" " : Str).length = 1 by decide +kernel]
          show _ ≤ 100000
          omega
      · have hlog := dg_log (hf i hi).1 (hf i hi).2
        simp -implicitDefEqProofs only [startD, sSeq, sSet, sRet, sIf, sSkip, sNever, sAsgG, sPar, fTup, f2, fSl, fPart, fNoPart, fVar, fC, fCons, fNil, fIf, fT, fCall, fIsa, fOrT, fAndT, fNotT, fAnd, fLc, fRng, fZip, fItemsT, fItemsL, List.map_cons, List.map_nil, List.length_cons, List.length_nil, List.replicate, List.cons_append, List.nil_append, List.getElem?_cons_zero, List.getElem?_cons_succ, List.set_cons_zero, List.set_cons_succ, Option.join_some, Option.join_none, Option.bind_some, Option.map_some, thenR_nx, thenR_rt, asI_int, asB_bool, gAdd_int, gSub_int, gMul_int, gCmpI_int, zBig, Nat.reduceAdd, Nat.reduceLeDiff, Nat.reduceSub, ite_true, ite_false, Bool.false_eq_true, decide_true, decide_false, gIs_none, decide_eq_true_eq, isD_tuple, isD_str, isD_int, isD_bool, isTuple_tuple, Bool.not_true, Bool.not_false, asTup_tup, asLst_lst, asRng_int, asZip_tup, wipeD, gNe, gEq, shaped_int, shaped_bool, shaped_none, and_self, condB_bool, setN, gStr1_int, hlog]
        rfl
theorem fn_claim_text {a : Addr} {fd : FuncData} (F : Fun K "claim_text" "claim_text" (top 69) a fd) (T : Tx mg) (hm : mg "claim_text" = some (.ref a)) (D_need_claim : FnD P w K mg base 3 "need_claim" g_need_claim) : FnD P w K mg base 4 "claim_text" g_claim_text :=
  fnD_of F hm (fun _ _ _ _ _ _ us hl => match us, hl with | [_], _ => rfl) (ok_claim_text F T D_need_claim)
/-! ### lines that are right -/
def partsC (c : Cl) (k : Nat) : List PyData := ((cNums c).take k).map fun l => .tuple (l.map .int)
abbrev Lr := {x : Cl × Nat // COk x.1 ∧ x.2 < 3}
theorem inj_Lr : ∀ a b : Lr, ([.list (partsC a.1.1 (a.1.2 + 1)), .int a.1.2, encC a.1.1] : List PyData) = [.list (partsC b.1.1 (b.1.2 + 1)), .int b.1.2, encC b.1.1] → a = b := fun a b h => by
  obtain ⟨_, h⟩ := inj1 h
  obtain ⟨h2, h⟩ := inj1 h
  have h3 := encC_inj (inj1 h).1
  injection h2 with h2
  exact Subtype.ext (Prod.ext h3 (by omega))
open Classical in
noncomputable def g_is_line_right : List PyData → Option PyData := fun ds => if ∃ (c : Cl) (k : Nat), COk c ∧ k < 3 ∧ ds = [.list (partsC c (k + 1)), .int k] then some (.bool true) else none
theorem g_is_line_right_eq {c : Cl} (h : COk c) {k : Nat} (hk : k < 3) : g_is_line_right [.list (partsC c (k + 1)), .int k] = some (.bool true) := by
  unfold g_is_line_right
  rw [if_pos ⟨c, k, h, hk, rfl⟩]
theorem g_is_line_right_some {ds : List PyData} {d : PyData} (h : g_is_line_right ds = some d) : ∃ (c : Cl) (k : Nat), COk c ∧ k < 3 ∧ ds = [.list (partsC c (k + 1)), .int k] ∧ d = .bool true := by
  unfold g_is_line_right at h
  split at h
  · rename_i hx
    obtain ⟨c, k, h1, h2, h3⟩ := hx
    cases h
    exact ⟨c, k, h1, h2, h3, rfl⟩
  · cases h
theorem sc_is_line_right : FnScope ["parts", "number"] ["parts", "number"] (defScope (top 70)) := ⟨rfl, rfl, rfl, by decide +kernel, rfl, by decide +kernel, by decide +kernel⟩
theorem ok_is_line_right {a : Addr} {fd : FuncData} (F : Fun K "is_line_right" "is_line_right" (top 70) a fd) (T : Tx mg) (D_wrong_part : FnD P w K mg base 2 "wrong_part" g_wrong_part) (D_is_range : FnD P w K mg base 2 "is_range" g_is_range) : FnOk P w K mg base CX0 3 a fd ["parts", "number"] (spF g_is_line_right K) := by
  refine okD F sc_is_line_right ?_ ?_ (fun cdv A outer s H E hr =>
    (ss_cons (s_if (t_cmp (op_eqD hr.units) (ov_eq) (pd 1) d_int (nomark _)) (ss_one (s_ret (d_and (d_cmp (op_eqD hr.units) (ov_eq) (d_callB cv_len call_lenP T.b_len (da_cons (d_ix (pd 0) d_int) da_nil) (hv := bt_len)) d_int (nomark _)) (pe_one (d_cmp (op_isN) (ov_is) (d_call D_wrong_part (hr.mono (by decide)) (da_cons (d_ix (pd 0) d_int) da_nil)) d_non (nomark _)))))) ss_nil)
    (ss_cons (s_if (t_cmp (op_eqD hr.units) (ov_eq) (pd 1) d_int (nomark _)) (ss_one (s_ret (d_call D_is_range (hr.mono (by decide)) (da_cons (d_ix (pd 0) d_int) (da_cons (d_gint T.c_MOST_INFLOW) da_nil))))) ss_nil)
    (ss_one (s_ret (d_and (d_cmp (op_eqD hr.units) (ov_eq) (pd 1) d_int (nomark _)) (pe_one (d_call D_is_range (hr.mono (by decide)) (da_cons (d_ix (pd 0) d_int) (da_cons (d_ix (d_ix (pd 0) d_int) d_int) da_nil))))))))))
  · intro ds d h
    obtain ⟨c, k, _, _, rfl, _⟩ := g_is_line_right_some h
    rfl
  · intro ds d h
    obtain ⟨c, k, hc, hk, rfl, rfl⟩ := g_is_line_right_some h
    left
    have e1 := g_wrong_part_eq hc.w
    obtain ⟨i1, i2, i3⟩ := hc.infl
    obtain ⟨l1, l2, l3⟩ := hc.lvs
    have e2 := g_is_range_eq i1 i2 i3
    have e3 := g_is_range_eq l1 l2 l3
    have z0 : ((0 : Nat) : Int) = 0 := rfl
    have z1 : ((1 : Nat) : Int) = 1 := rfl
    have z2 : ((2 : Nat) : Int) = 2 := rfl
    have b10 : ((1 : Int) == 0) = false := rfl
    have b20 : ((2 : Int) == 0) = false := rfl
    have b21 : ((2 : Int) == 1) = false := rfl
    rcases (show k = 0 ∨ k = 1 ∨ k = 2 by omega) with rfl | rfl | rfl
    · have f1 : gIx (.list (partsC c 1)) (.int 0) = some (encW c.w) := rfl
      simp -implicitDefEqProofs only [startD, sSeq, sSet, sRet, sIf, sSkip, sNever, sAsgG, sPar, fTup, f2, fSl, fPart, fNoPart, fVar, fC, fCons, fNil, fIf, fT, fCall, fIsa, fOrT, fAndT, fNotT, fAnd, fLc, fRng, fZip, fItemsT, fItemsL, List.map_cons, List.map_nil, List.length_cons, List.length_nil, List.replicate, List.cons_append, List.nil_append, List.getElem?_cons_zero, List.getElem?_cons_succ, List.set_cons_zero, List.set_cons_succ, Option.join_some, Option.join_none, Option.bind_some, Option.map_some, thenR_nx, thenR_rt, asI_int, asB_bool, gAdd_int, gSub_int, gMul_int, gCmpI_int, zBig, Nat.reduceAdd, Nat.reduceLeDiff, Nat.reduceSub, ite_true, ite_false, Bool.false_eq_true, decide_true, decide_false, gIs_none, decide_eq_true_eq, isD_tuple, isD_str, isD_int, isD_bool, isTuple_tuple, Bool.not_true, Bool.not_false, asTup_tup, asLst_lst, asRng_int, asZip_tup, wipeD, gNe, gEq, shaped_int, shaped_bool, shaped_none, and_self, condB_bool, eqv_int, f1, e1, len_W, z0, z1, z2, b10, b20, b21, beq_self_eq_true, Nat.reduceAdd, isNoneD_none]
    · have f1 : gIx (.list (partsC c 2)) (.int 1) = some (encP c.lo c.hi) := rfl
      simp -implicitDefEqProofs only [startD, sSeq, sSet, sRet, sIf, sSkip, sNever, sAsgG, sPar, fTup, f2, fSl, fPart, fNoPart, fVar, fC, fCons, fNil, fIf, fT, fCall, fIsa, fOrT, fAndT, fNotT, fAnd, fLc, fRng, fZip, fItemsT, fItemsL, List.map_cons, List.map_nil, List.length_cons, List.length_nil, List.replicate, List.cons_append, List.nil_append, List.getElem?_cons_zero, List.getElem?_cons_succ, List.set_cons_zero, List.set_cons_succ, Option.join_some, Option.join_none, Option.bind_some, Option.map_some, thenR_nx, thenR_rt, asI_int, asB_bool, gAdd_int, gSub_int, gMul_int, gCmpI_int, zBig, Nat.reduceAdd, Nat.reduceLeDiff, Nat.reduceSub, ite_true, ite_false, Bool.false_eq_true, decide_true, decide_false, gIs_none, decide_eq_true_eq, isD_tuple, isD_str, isD_int, isD_bool, isTuple_tuple, Bool.not_true, Bool.not_false, asTup_tup, asLst_lst, asRng_int, asZip_tup, wipeD, gNe, gEq, shaped_int, shaped_bool, shaped_none, and_self, condB_bool, eqv_int, f1, e2, z0, z1, z2, b10, b20, b21, beq_self_eq_true, Nat.reduceAdd, isNoneD_none]
    · have f1 : gIx (.list (partsC c 3)) (.int 2) = some (encP c.frm c.to) := rfl
      have q2 : gIx (.list (partsC c 3)) (.int 0) = some (encW c.w) := rfl
      simp -implicitDefEqProofs only [startD, sSeq, sSet, sRet, sIf, sSkip, sNever, sAsgG, sPar, fTup, f2, fSl, fPart, fNoPart, fVar, fC, fCons, fNil, fIf, fT, fCall, fIsa, fOrT, fAndT, fNotT, fAnd, fLc, fRng, fZip, fItemsT, fItemsL, List.map_cons, List.map_nil, List.length_cons, List.length_nil, List.replicate, List.cons_append, List.nil_append, List.getElem?_cons_zero, List.getElem?_cons_succ, List.set_cons_zero, List.set_cons_succ, Option.join_some, Option.join_none, Option.bind_some, Option.map_some, thenR_nx, thenR_rt, asI_int, asB_bool, gAdd_int, gSub_int, gMul_int, gCmpI_int, zBig, Nat.reduceAdd, Nat.reduceLeDiff, Nat.reduceSub, ite_true, ite_false, Bool.false_eq_true, decide_true, decide_false, gIs_none, decide_eq_true_eq, isD_tuple, isD_str, isD_int, isD_bool, isTuple_tuple, Bool.not_true, Bool.not_false, asTup_tup, asLst_lst, asRng_int, asZip_tup, wipeD, gNe, gEq, shaped_int, shaped_bool, shaped_none, and_self, condB_bool, eqv_int, f1, q2, ixW0, e3, z0, z1, z2, b10, b20, b21, beq_self_eq_true, Nat.reduceAdd, isNoneD_none]
theorem fn_is_line_right {a : Addr} {fd : FuncData} (F : Fun K "is_line_right" "is_line_right" (top 70) a fd) (T : Tx mg) (hm : mg "is_line_right" = some (.ref a)) (D_wrong_part : FnD P w K mg base 2 "wrong_part" g_wrong_part) (D_is_range : FnD P w K mg base 2 "is_range" g_is_range) : FnD P w K mg base 3 "is_line_right" g_is_line_right :=
  fnD_of F hm (fun _ _ _ _ _ _ us hl => match us, hl with | [_, _], _ => rfl) (ok_is_line_right F T D_wrong_part D_is_range)
end
end Pm
set_option maxHeartbeats 4000000
/-! TY: read_claim, row_told -/
namespace Pm
open PySem PySem.Spec PyProof.Rows L2
section
variable {P : Program} {w : World} {K : PySem.W.Frag} {mg : Str → Option Value} {base : Heap}
abbrev Fg2 := Fig × Fig
theorem inj_Fg2 : ∀ a b : Fg2, ([.tuple [.int a.1.1, .int a.2.1]] : List PyData) = [.tuple [.int b.1.1, .int b.2.1]] → a = b := fun a b h => by
  have h1 := (inj1 h).1
  injection h1 with h1
  obtain ⟨h2, h3⟩ := inj1 h1
  exact Prod.ext (Subtype.ext (inj_I _ _ h2)) (Subtype.ext (inj_I _ _ (inj1 h3).1))
where
  inj_I (a b : Int) (h : PyData.int a = .int b) : a = b := by injection h
theorem sc_row_told : FnScope ["words", "word"] ["words"] (defScope (top 78)) := ⟨rfl, rfl, rfl, by decide +kernel, rfl, by decide +kernel, by decide +kernel⟩
noncomputable def g_row_told : List PyData → Option PyData := mkF (α := Fg2) (fun _ => True) (fun x => [.tuple [.int x.1.1, .int x.2.1]]) (fun x => .str (lineC [x.1.1, x.2.1]))
theorem g_row_told_eq {a b : Int} (h1 : 0 ≤ a) (h2 : a ≤ 9) (h3 : 0 ≤ b) (h4 : b ≤ 9) : g_row_told [.tuple [.int a, .int b]] = some (.str (lineC [a, b])) := mkF_eq (a := ((⟨a, h1, h2⟩, ⟨b, h3, h4⟩) : Fg2)) inj_Fg2 trivial
theorem ok_row_told {a : Addr} {fd : FuncData} (F : Fun K "row_told" "row_told" (top 78) a fd) (T : Tx mg) : FnOk P w K mg base CX0 1 a fd ["words"] (spF g_row_told K) := by
  refine okD F sc_row_told ?_ ?_ (fun cdv A outer s H E hr =>
    (ss_one (s_ret (d_join (d_gstr T.c_BLANK) (d_lc (own := [("word", 1)]) sc_row_told.nd (i_tup (pd 0)) (blkOk_by (N := ["words", "word"]) (sc := (defScope (top 78))) (by decide +kernel)) (dg_name 1) (by decide) (fun _ _ _ _ _ => (pg_name (i := 1) sc_row_told.nd rfl (Or.inl rfl))) (fun _ _ _ _ _ => (d_callTy cv_str1 call_str_int T.b_str (da_cons (pd 1) da_nil) (hv := bt_str))))))))
  · intro ds d h
    obtain ⟨x, hP, rfl, rfl⟩ := mkF_some h
    rfl
  · intro ds d h
    obtain ⟨⟨⟨a, a1, a2⟩, ⟨b, b1, b2⟩⟩, hP, rfl, rfl⟩ := mkF_some h
    left
    have e1 : gStr1 [.int a] = some (.str (dg a)) := by rw [gStr1_int, if_pos (dg_log a1 a2)]; rfl
    have e2 : gStr1 [.int b] = some (.str (dg b)) := by rw [gStr1_int, if_pos (dg_log b1 b2)]; rfl
    have hf : ∀ i ∈ [a, b], 0 ≤ i ∧ i ≤ 9 := fun i hi => by
      simp at hi
      rcases hi with rfl | rfl
      · exact ⟨a1, a2⟩
      · exact ⟨b1, b2⟩
    have e3 : gJoin (.str " ") (.list [.str (dg a), .str (dg b)]) = some (.str (lineC [a, b])) := by
      rw [show ([.str (dg a), .str (dg b)] : List PyData) = ([a, b].map dg).map PyData.str from rfl, gJoin_str, L2.strs_map, Option.bind_some, if_pos]
      · rfl
      · rw [dgs_sum hf, List.length_map, show (" " : Str).length = 1 by decide +kernel]
        show _ ≤ 100000
        simp
    simp -implicitDefEqProofs only [startD, sSeq, sSet, sRet, sIf, sSkip, sNever, sAsgG, sPar, fTup, f2, fSl, fPart, fNoPart, fVar, fC, fCons, fNil, fIf, fT, fCall, fIsa, fOrT, fAndT, fNotT, fAnd, fLc, fRng, fZip, fItemsT, fItemsL, List.map_cons, List.map_nil, List.length_cons, List.length_nil, List.replicate, List.cons_append, List.nil_append, List.getElem?_cons_zero, List.getElem?_cons_succ, List.set_cons_zero, List.set_cons_succ, Option.join_some, Option.join_none, Option.bind_some, Option.map_some, thenR_nx, thenR_rt, asI_int, asB_bool, gAdd_int, gSub_int, gMul_int, gCmpI_int, zBig, Nat.reduceAdd, Nat.reduceLeDiff, Nat.reduceSub, ite_true, ite_false, Bool.false_eq_true, decide_true, decide_false, gIs_none, decide_eq_true_eq, isD_tuple, isD_str, isD_int, isD_bool, isTuple_tuple, Bool.not_true, Bool.not_false, asTup_tup, asLst_lst, asRng_int, asZip_tup, wipeD, gNe, gEq, shaped_int, shaped_bool, shaped_none, and_self, condB_bool, lcRun, setN, noLAll, noL, Bool.and_self, e1, e2, e3]
theorem fn_row_told {a : Addr} {fd : FuncData} (F : Fun K "row_told" "row_told" (top 78) a fd) (T : Tx mg) (hm : mg "row_told" = some (.ref a)) : FnD P w K mg base 1 "row_told" g_row_told :=
  fnD_of F hm (fun _ _ _ _ _ _ us hl => match us, hl with | [_], _ => rfl) (ok_row_told F T)
theorem sc_read_claim : FnScope ["string", "parts", "number", "line", "word"] ["string"] (defScope (top 71)) := ⟨rfl, rfl, rfl, by decide +kernel, rfl, by decide +kernel, by decide +kernel⟩
noncomputable def g_read_claim : List PyData → Option PyData := mkF (α := Dc) (fun _ => True) (fun x => [.str (txtC x.1)]) (fun x => encC x.1)
theorem g_read_claim_eq {c : Cl} (h : DrC c) : g_read_claim [.str (txtC c)] = some (encC c) := mkF_eq (a := (⟨c, h⟩ : Dc)) inj_Dt trivial
theorem env_none {H : Hp} {σ : L2.St} {n : Nat} (h : σ.length = n) : EnvD K H σ (List.replicate n none) := ⟨by simp [h], fun i d hi => by
  rw [List.getElem?_replicate] at hi
  split at hi <;> cases hi⟩
theorem env_at {H : Hp} {σ : L2.St} {ρ : DE} {j : Nat} {v : V} {d : PyData} (h : EnvD K H σ ρ) (hj : σ[j]? = some (some v)) (hv : Dp K H v d) : EnvD K H σ (ρ.set j (some d)) := by
  refine ⟨by simp [h.1], fun i d' hi => ?_⟩
  by_cases e : j = i
  · subst e
    by_cases hl : j < ρ.length
    · rw [List.getElem?_set_self hl] at hi
      cases hi
      exact ⟨v, hj, hv⟩
    · rw [List.getElem?_eq_none (by simpa using hl)] at hi
      cases hi
  · rw [List.getElem?_set_ne e] at hi
    exact h.2 i d' hi
/-- the tuple of a line -/
theorem line_read {l : List Int} (hl : l ≠ []) (h : ∀ i ∈ l, 0 ≤ i ∧ i ≤ 9) (h9 : l.length ≤ 9) {r0 r1 r2 r4 : Option PyData} : (fCall gTupOf (fCons (fLc (fItemsL (L2.f2 gSplit (fVar 3) (fC (.str " ")))) (setN 4) (fCall g_integer_of (fCons (fVar 4) fNil)) [4]) fNil)) [r0, r1, r2, some (.str (lineC l)), r4] = some (.tuple (l.map .int)) := by
  have hz := line_len h h9
  have e1 : gSplit (.str (lineC l)) (.str " ") = some (.list ((l.map dg).map .str)) := by
    rw [gSplit_str, if_pos ⟨by decide +kernel, by show _ ≤ 100000; omega⟩, split_line hl h]
  have c4 : l.length ≤ 100000 := by omega
  simp -implicitDefEqProofs only [startD, sSeq, sSet, sRet, sIf, sSkip, sNever, sAsgG, sPar, fTup, f2, fSl, fPart, fNoPart, fVar, fC, fCons, fNil, fIf, fT, fCall, fIsa, fOrT, fAndT, fNotT, fAnd, fLc, fRng, fZip, fItemsT, fItemsL, List.map_cons, List.map_nil, List.length_cons, List.length_nil, List.replicate, List.cons_append, List.nil_append, List.getElem?_cons_zero, List.getElem?_cons_succ, List.set_cons_zero, List.set_cons_succ, Option.join_some, Option.join_none, Option.bind_some, Option.map_some, thenR_nx, thenR_rt, asI_int, asB_bool, gAdd_int, gSub_int, gMul_int, gCmpI_int, zBig, Nat.reduceAdd, Nat.reduceLeDiff, Nat.reduceSub, ite_true, ite_false, Bool.false_eq_true, decide_true, decide_false, gIs_none, decide_eq_true_eq, isD_tuple, isD_str, isD_int, isD_bool, isTuple_tuple, Bool.not_true, Bool.not_false, asTup_tup, asLst_lst, asRng_int, asZip_tup, wipeD, gNe, gEq, shaped_int, shaped_bool, shaped_none, and_self, condB_bool, e1, List.length_map, c4]
  rw [List.map_map]
  rw [lcRun_map (en := PyData.str ∘ dg) (g := fun i => .int i) fun i hi => ⟨_, rfl, ?_⟩]
  · have e3 : noLAll (l.map fun i => PyData.int i) = true := noL_map (fun _ => rfl) _
    simp -implicitDefEqProofs only [startD, sSeq, sSet, sRet, sIf, sSkip, sNever, sAsgG, sPar, fTup, f2, fSl, fPart, fNoPart, fVar, fC, fCons, fNil, fIf, fT, fCall, fIsa, fOrT, fAndT, fNotT, fAnd, fLc, fRng, fZip, fItemsT, fItemsL, List.map_cons, List.map_nil, List.length_cons, List.length_nil, List.replicate, List.cons_append, List.nil_append, List.getElem?_cons_zero, List.getElem?_cons_succ, List.set_cons_zero, List.set_cons_succ, Option.join_some, Option.join_none, Option.bind_some, Option.map_some, thenR_nx, thenR_rt, asI_int, asB_bool, gAdd_int, gSub_int, gMul_int, gCmpI_int, zBig, Nat.reduceAdd, Nat.reduceLeDiff, Nat.reduceSub, ite_true, ite_false, Bool.false_eq_true, decide_true, decide_false, gIs_none, decide_eq_true_eq, isD_tuple, isD_str, isD_int, isD_bool, isTuple_tuple, Bool.not_true, Bool.not_false, asTup_tup, asLst_lst, asRng_int, asZip_tup, wipeD, gNe, gEq, shaped_int, shaped_bool, shaped_none, and_self, condB_bool, e3, gTupOf_lst]
  · obtain ⟨a, b⟩ := h i hi
    simp -implicitDefEqProofs only [startD, sSeq, sSet, sRet, sIf, sSkip, sNever, sAsgG, sPar, fTup, f2, fSl, fPart, fNoPart, fVar, fC, fCons, fNil, fIf, fT, fCall, fIsa, fOrT, fAndT, fNotT, fAnd, fLc, fRng, fZip, fItemsT, fItemsL, List.map_cons, List.map_nil, List.length_cons, List.length_nil, List.replicate, List.cons_append, List.nil_append, List.getElem?_cons_zero, List.getElem?_cons_succ, List.set_cons_zero, List.set_cons_succ, Option.join_some, Option.join_none, Option.bind_some, Option.map_some, thenR_nx, thenR_rt, asI_int, asB_bool, gAdd_int, gSub_int, gMul_int, gCmpI_int, zBig, Nat.reduceAdd, Nat.reduceLeDiff, Nat.reduceSub, ite_true, ite_false, Bool.false_eq_true, decide_true, decide_false, gIs_none, decide_eq_true_eq, isD_tuple, isD_str, isD_int, isD_bool, isTuple_tuple, Bool.not_true, Bool.not_false, asTup_tup, asLst_lst, asRng_int, asZip_tup, wipeD, gNe, gEq, shaped_int, shaped_bool, shaped_none, and_self, condB_bool, setN, Function.comp_apply, g_integer_of_eq a b]
theorem ok_read_claim {a : Addr} {fd : FuncData} (F : Fun K "read_claim" "read_claim" (top 71) a fd) (T : Tx mg) (D_integer_of : FnD P w K mg base 1 "integer_of" g_integer_of) (D_is_line_right : FnD P w K mg base 3 "is_line_right" g_is_line_right) : FnOk P w K mg base CX0 4 a fd ["string"] (spF g_read_claim K) := by
  refine F.ok sc_read_claim (fun vs H Q E h => ?_) (fun cdv A outer s H vs Q E hr h => ?_)
  · obtain ⟨ds, d, h1, h2, _⟩ := h
    obtain ⟨x, hP, rfl, rfl⟩ := mkF_some h2
    exact h1.length
  · obtain ⟨ds, d, h1, h2, q⟩ := h
    obtain ⟨⟨c, hc⟩, _, rfl, rfl⟩ := mkF_some h2
    simp only at q
    obtain ⟨vs0, rfl, ds0⟩ := dpa1 h1
    obtain rfl := dp_str ds0
    refine ⟨_, pss_cons (s_if (t_not (t_val (d_isa (T := "str") (pd 0) T.b_isinstance T.b_str (hT := bt_str)))) (ss_one s_never) ss_nil)
      (pss_cons (ps_set (i := 1) sc_read_claim.nd rfl (Or.inl rfl) (pe_lst pa_nil))
      (pss_cons (ps_for PassesOwn.never rfl (pi_enum rfl T.b_enumerate (pa_cons (d_split (pd 0) (d_gstr T.c_LINE_END)) pa_nil)) (pg_tup rfl (pgs_cons (pg_name (i := 2) sc_read_claim.nd rfl (Or.inl rfl)) (pgs_cons (pg_name (i := 3) sc_read_claim.nd rfl (Or.inl rfl)) pgs_nil)))
        (pss_cons (ps_expr (pe_bm PySem.F.plainAttrs_list PySem.F.slot_list_append PySem.F.type_list_append mt_append (pv 1) (pa_cons (d_callTy cv_tupOf call_tuple_of T.b_tuple (da_cons (d_lc (own := [("word", 4)]) sc_read_claim.nd (i_list (d_split (pd 3) (d_gstr T.c_BLANK))) (blkOk_by (N := ["string", "parts", "number", "line", "word"]) (sc := (defScope (top 71))) (by decide +kernel)) (dg_name 4) (by decide) (fun _ _ _ _ _ => (pg_name (i := 4) sc_read_claim.nd rfl (Or.inl rfl))) (fun _ _ _ _ _ => (d_call D_integer_of (hr.mono (by decide)) (da_cons (pd 4) da_nil)))) da_nil) (hv := bt_tuple)) pa_nil)))
        (pss_one (ps_if (t_not (t_val (d_call D_is_line_right (hr.mono (by decide)) (da_cons (pd 1) (da_cons (pd 2) da_nil))))) (pss_one ps_never) pss_nil))))
      (pss_cons (s_if (t_cmp (op_lt) (ov_cmpI _) (d_callB cv_len call_lenP T.b_len (da_cons (pd 1) da_nil) (hv := bt_len)) (d_gint T.c_MANY_LINES) (nomark _)) (ss_one s_never) ss_nil)
      (pss_one (s_ret (d_callTy cv_tupOf call_tuple_of T.b_tuple (da_cons (pd 1) da_nil) (hv := bt_tuple))))))), ?_⟩
    refine ⟨_, .nx [some (.str (txtC c)), none, none, none, none], env_c (.str _) (env_no (env_no (env_no (env_no env_nil)))), ?_, fun ρ' e9 σ1 H1 s1 v1 => ?_, fun d e9 => (nomatch e9)⟩
    · simp -implicitDefEqProofs only [startD, sSeq, sSet, sRet, sIf, sSkip, sNever, sAsgG, sPar, fTup, f2, fSl, fPart, fNoPart, fVar, fC, fCons, fNil, fIf, fT, fCall, fIsa, fOrT, fAndT, fNotT, fAnd, fLc, fRng, fZip, fItemsT, fItemsL, List.map_cons, List.map_nil, List.length_cons, List.length_nil, List.replicate, List.cons_append, List.nil_append, List.getElem?_cons_zero, List.getElem?_cons_succ, List.set_cons_zero, List.set_cons_succ, Option.join_some, Option.join_none, Option.bind_some, Option.map_some, thenR_nx, thenR_rt, asI_int, asB_bool, gAdd_int, gSub_int, gMul_int, gCmpI_int, zBig, Nat.reduceAdd, Nat.reduceLeDiff, Nat.reduceSub, ite_true, ite_false, Bool.false_eq_true, decide_true, decide_false, gIs_none, decide_eq_true_eq, isD_tuple, isD_str, isD_int, isD_bool, isTuple_tuple, Bool.not_true, Bool.not_false, asTup_tup, asLst_lst, asRng_int, asZip_tup, wipeD, gNe, gEq, shaped_int, shaped_bool, shaped_none, and_self, condB_bool, isStr_str]
    cases e9
    -- parts = []
    refine ⟨(by show 0 ≤ sizeLine; exact Nat.zero_le _), fun lp hlp => ?_⟩
    have sP : Same H1 (upd H1 lp (.lst [])) := Same.new hlp
    have v2 : EnvD K (upd H1 lp (.lst [])) (σ1.set 1 (some (.ref lp))) [some (.str (txtC c)), none, none, none, none] := env_setx (v1.same sP) rfl
    have hlen := txt_len hc
    -- enumerate(string.split(LINE_END))
    refine ⟨[some (.str (txtC c)), none, none, none, none], .list (((cNums c).map lineC).map .str), v2, ?_, fun vL H3 s3 dL => ?_⟩
    · have e1 : gSplit (.str (txtC c)) (.str "\n") = some (.list (((cNums c).map lineC).map .str)) := by
        rw [gSplit_str, if_pos ⟨by decide +kernel, hlen.2⟩, split_txt hc]
      simp -implicitDefEqProofs only [startD, sSeq, sSet, sRet, sIf, sSkip, sNever, sAsgG, sPar, fTup, f2, fSl, fPart, fNoPart, fVar, fC, fCons, fNil, fIf, fT, fCall, fIsa, fOrT, fAndT, fNotT, fAnd, fLc, fRng, fZip, fItemsT, fItemsL, List.map_cons, List.map_nil, List.length_cons, List.length_nil, List.replicate, List.cons_append, List.nil_append, List.getElem?_cons_zero, List.getElem?_cons_succ, List.set_cons_zero, List.set_cons_succ, Option.join_some, Option.join_none, Option.bind_some, Option.map_some, thenR_nx, thenR_rt, asI_int, asB_bool, gAdd_int, gSub_int, gMul_int, gCmpI_int, zBig, Nat.reduceAdd, Nat.reduceLeDiff, Nat.reduceSub, ite_true, ite_false, Bool.false_eq_true, decide_true, decide_false, gIs_none, decide_eq_true_eq, isD_tuple, isD_str, isD_int, isD_bool, isTuple_tuple, Bool.not_true, Bool.not_false, asTup_tup, asLst_lst, asRng_int, asZip_tup, wipeD, gNe, gEq, shaped_int, shaped_bool, shaped_none, and_self, condB_bool, e1]
    obtain ⟨a, xs, rfl, hX, dX⟩ := dp_lst dL
    have hxs : xs = ((cNums c).map lineC).map V.str := strs_some dX (L2.strs_map _)
    have hl3 : H3 lp = some (.lst []) := s3 _ _ upd_same
    have l1 : σ1.length = 5 := v1.1
    have figs := hc.figs
    refine ⟨a, xs, rfl, hX, ?_⟩
    have n3 : xs.length = 3 := by rw [hxs]; simp [cNums]
    let I : Nat → L2.St → Hp → Prop := fun i σ H' => Same H H' ∧ σ.length = 5 ∧ σ[1]? = some (some (.ref lp)) ∧ SqL K H' a xs ∧ ∃ ws, H' lp = some (.lst ws) ∧ DpAll K H' ws (partsC c i) ∧ (i = 0 ∧ ws = [] ∨ a ≠ lp)
    refine ⟨fun i m σ H' => m = 3 - i ∧ i ≤ 3 ∧ I i σ H', ⟨3, rfl, Nat.zero_le _, (s1.trans sP).trans s3, by simp [l1], by rw [List.getElem?_set_self (by rw [l1]; decide)], hX, [], hl3, .nil, .inl ⟨rfl, rfl⟩⟩, ?_⟩
    rintro i m σ H4 ⟨rfl, hi, s4, l4, p4, hX4, ws, hw4, dw4, al0⟩
    by_cases hlt : i < 3
    · refine .inr ⟨⟨xs, xs[i]'(by omega), hX4, by simp⟩, fun σ' H' => I (i + 1) σ' H', fun σ' H' h => ⟨3 - (i + 1), by omega, rfl, hlt, h⟩, fun x H5 y => ?_⟩
      obtain ⟨T0, xv, rfl, hT0, rfl, hxv⟩ := y
      have al : a ≠ lp := by
        rcases al0 with ⟨rfl, rfl⟩ | al
        · intro z
          subst z
          have := hxv [] (SqL.of hw4)
          simp at this
        · exact al
      have hlc : i < (cNums c).length := by show i < 3; exact hlt
      have hx1 := hxv xs hX4
      rw [hxs, List.getElem?_map, List.getElem?_map, List.getElem?_eq_getElem hlc] at hx1
      simp only [Option.map_some, Option.some.injEq] at hx1
      subst hx1
      have hlm : (cNums c)[i] ∈ cNums c := List.getElem_mem hlc
      generalize hl : (cNums c)[i] = l at hlm
      have hl2 := cNums_len l hlm
      have hne : l ≠ [] := fun z => by rw [z] at hl2; simp at hl2
      have s5 : Same H4 (upd H4 T0 (.tup [.int (i : Nat), .str (lineC l)])) := Same.new hT0
      have sx : ∀ {σ : L2.St} {j : Nat} {x : Option V}, σ.length = 5 → (σ.set j x).length = 5 := fun h => by simp [h]
      have l5 : ((σ.set 2 (some (V.int (i : Nat)))).set 3 (some (.str (lineC l)))).length = 5 := sx (sx l4)
      have p5 : ((σ.set 2 (some (V.int (i : Nat)))).set 3 (some (V.str (lineC l))))[1]? = some (some (.ref lp)) := by
        rw [List.getElem?_set_ne (by decide), List.getElem?_set_ne (by decide)]
        exact p4
      have hw5 := s5 _ _ hw4
      refine ⟨T0, _, rfl, SqT.of upd_same, rfl, _, _, rfl, _, _, rfl, rfl, ?_⟩
      -- parts.append(..)
      have ev5 : EnvD K (upd H4 T0 (.tup [.int (i : Nat), .str (lineC l)])) ((σ.set 2 (some (V.int (i : Nat)))).set 3 (some (.str (lineC l)))) [none, none, none, some (.str (lineC l)), none] := by
        have h0 : EnvD K (upd H4 T0 (.tup [.int (i : Nat), .str (lineC l)])) (σ.set 2 (some (V.int (i : Nat)))) [none, none, none, none, none] := env_none (sx l4)
        exact h0.set (j := 3) (.str _)
      refine ⟨_, p5, .inl ⟨rfl, _, SqL.of hw5⟩, [none, none, none, some (.str (lineC l)), none], .tuple (l.map .int), ev5, line_read hne (figs l hlm) hl2.2, fun v H6 s6 d6 => ?_⟩
      have hw6 := s6 _ _ hw5
      have s46 := s5.trans s6
      have lenw : ws.length ≤ 3 := by
        have := dw4.length
        unfold partsC at this
        rw [List.length_map, List.length_take] at this
        omega
      refine ⟨lp, ws, v, rfl, rfl, hw6, small1000 (by omega), ?_⟩
      have ns : NoSeq (H6 lp) := by rw [hw6]; exact noSeq_lst
      have nlp : ∀ k, noLAll (partsC c k) = true := fun k => noL_map (g := fun l : List Int => PyData.tuple (l.map .int)) (fun l => noL_I l) _
      have hnew : DpAll K (upd H6 lp (.lst (ws ++ [v]))) (ws ++ [v]) (partsC c (i + 1)) := by
        have e1 : partsC c (i + 1) = partsC c i ++ [.tuple (l.map .int)] := by
          unfold partsC
          rw [List.take_add_one, List.getElem?_eq_getElem hlc, List.map_append, hl]
          rfl
        rw [e1]
        exact (DpAll.upd ns (dw4.same s46) (nlp i)).append (.cons (Dp.upd ns d6 (noL_I l)) .nil)
      have lpH : H lp = none := s1.free hlp
      have s7 : Same H (upd H6 lp (.lst (ws ++ [v]))) := (s4.trans s46).mut lpH
      -- if not is_line_right(parts, number)
      have ev7 : EnvD K (upd H6 lp (.lst (ws ++ [v]))) ((σ.set 2 (some (V.int (i : Nat)))).set 3 (some (.str (lineC l)))) [none, some (.list (partsC c (i + 1))), some (.int (i : Nat)), none, none] := by
        have h2 : ((σ.set 2 (some (V.int (i : Nat)))).set 3 (some (V.str (lineC l))))[2]? = some (some (.int (i : Nat))) := by
          rw [List.getElem?_set_ne (by decide), List.getElem?_set_self (by rw [l4]; decide)]
        exact env_at (j := 2) (env_at (j := 1) (env_none (n := 5) l5) p5 (.lst (SqL.of upd_same) hnew)) h2 (.int _)
      refine ⟨_, false, ev7, ?_, fun H8 s8 => ?_⟩
      · simp -implicitDefEqProofs only [startD, sSeq, sSet, sRet, sIf, sSkip, sNever, sAsgG, sPar, fTup, f2, fSl, fPart, fNoPart, fVar, fC, fCons, fNil, fIf, fT, fCall, fIsa, fOrT, fAndT, fNotT, fAnd, fLc, fRng, fZip, fItemsT, fItemsL, List.map_cons, List.map_nil, List.length_cons, List.length_nil, List.replicate, List.cons_append, List.nil_append, List.getElem?_cons_zero, List.getElem?_cons_succ, List.set_cons_zero, List.set_cons_succ, Option.join_some, Option.join_none, Option.bind_some, Option.map_some, thenR_nx, thenR_rt, asI_int, asB_bool, gAdd_int, gSub_int, gMul_int, gCmpI_int, zBig, Nat.reduceAdd, Nat.reduceLeDiff, Nat.reduceSub, ite_true, ite_false, Bool.false_eq_true, decide_true, decide_false, gIs_none, decide_eq_true_eq, isD_tuple, isD_str, isD_int, isD_bool, isTuple_tuple, Bool.not_true, Bool.not_false, asTup_tup, asLst_lst, asRng_int, asZip_tup, wipeD, gNe, gEq, shaped_int, shaped_bool, shaped_none, and_self, condB_bool, g_is_line_right_eq hc.toCOk hlt]
      refine iteF ?_
      exact ⟨s7.trans s8, l5, p5, s8.seq (sql_upd al (s46.seq hX4)), ws ++ [v], s8 _ _ upd_same, hnew.same s8, .inr al⟩
    · have e : i = 3 := by omega
      subst e
      refine .inl ⟨⟨xs, hX4, by omega⟩, ?_⟩
      have ev : EnvD K H4 σ [none, some (.list (partsC c 3)), none, none, none] := by
        exact env_at (j := 1) (env_none (n := 5) l4) p4 (.lst (SqL.of hw4) dw4)
      refine ⟨_, .nx [none, some (.list (partsC c 3)), none, none, none], ev, ?_, fun ρ' e9 σ5 H5 s5 v5 => ?_, fun d e9 => (nomatch e9)⟩
      · have e3 : gLen [.list (partsC c 3)] = some (.int 3) := rfl
        simp -implicitDefEqProofs only [startD, sSeq, sSet, sRet, sIf, sSkip, sNever, sAsgG, sPar, fTup, f2, fSl, fPart, fNoPart, fVar, fC, fCons, fNil, fIf, fT, fCall, fIsa, fOrT, fAndT, fNotT, fAnd, fLc, fRng, fZip, fItemsT, fItemsL, List.map_cons, List.map_nil, List.length_cons, List.length_nil, List.replicate, List.cons_append, List.nil_append, List.getElem?_cons_zero, List.getElem?_cons_succ, List.set_cons_zero, List.set_cons_succ, Option.join_some, Option.join_none, Option.bind_some, Option.map_some, thenR_nx, thenR_rt, asI_int, asB_bool, gAdd_int, gSub_int, gMul_int, gCmpI_int, zBig, Nat.reduceAdd, Nat.reduceLeDiff, Nat.reduceSub, ite_true, ite_false, Bool.false_eq_true, decide_true, decide_false, gIs_none, decide_eq_true_eq, isD_tuple, isD_str, isD_int, isD_bool, isTuple_tuple, Bool.not_true, Bool.not_false, asTup_tup, asLst_lst, asRng_int, asZip_tup, wipeD, gNe, gEq, shaped_int, shaped_bool, shaped_none, and_self, condB_bool, e3]
        rfl
      cases e9
      refine ⟨_, .rt (encC c), v5, ?_, fun ρ' e9 => (nomatch e9), fun d e9 v6 H6 s6 d6 => ?_⟩
      · simp -implicitDefEqProofs only [startD, sSeq, sSet, sRet, sIf, sSkip, sNever, sAsgG, sPar, fTup, f2, fSl, fPart, fNoPart, fVar, fC, fCons, fNil, fIf, fT, fCall, fIsa, fOrT, fAndT, fNotT, fAnd, fLc, fRng, fZip, fItemsT, fItemsL, List.map_cons, List.map_nil, List.length_cons, List.length_nil, List.replicate, List.cons_append, List.nil_append, List.getElem?_cons_zero, List.getElem?_cons_succ, List.set_cons_zero, List.set_cons_succ, Option.join_some, Option.join_none, Option.bind_some, Option.map_some, thenR_nx, thenR_rt, asI_int, asB_bool, gAdd_int, gSub_int, gMul_int, gCmpI_int, zBig, Nat.reduceAdd, Nat.reduceLeDiff, Nat.reduceSub, ite_true, ite_false, Bool.false_eq_true, decide_true, decide_false, gIs_none, decide_eq_true_eq, isD_tuple, isD_str, isD_int, isD_bool, isTuple_tuple, Bool.not_true, Bool.not_false, asTup_tup, asLst_lst, asRng_int, asZip_tup, wipeD, gNe, gEq, shaped_int, shaped_bool, shaped_none, and_self, condB_bool, gTupOf_lst]
        rfl
      cases e9
      exact q v6 H6 ((s4.trans s5).trans s6) d6
theorem fn_read_claim {a : Addr} {fd : FuncData} (F : Fun K "read_claim" "read_claim" (top 71) a fd) (T : Tx mg) (hm : mg "read_claim" = some (.ref a)) (D_integer_of : FnD P w K mg base 1 "integer_of" g_integer_of) (D_is_line_right : FnD P w K mg base 3 "is_line_right" g_is_line_right) : FnD P w K mg base 4 "read_claim" g_read_claim :=
  fnD_of F hm (fun _ _ _ _ _ _ us hl => match us, hl with | [_], _ => rfl) (ok_read_claim F T D_integer_of D_is_line_right)
end
end Pm
set_option maxHeartbeats 4000000
/-! DS1: a, *b = a list; a sign that is not in a text -/
namespace L2
open PySem PySem.Spec PySem.Calls PyProof.Rows PySem.W
section
variable {prog : Program} {w : World} {A : Around} {E : Value → Shared → Prop} {s : Shared}
theorem unpack_star {l : Addr} {items : Array Value} {x0 : Value} {r : List Value} {Q : List Value → Shared → Prop} (hl : s.heap.IsList l items) (hh : A.handled = none) (hi : items.toList = x0 :: r) (hz : items.size ≤ 16384)
    (h : ∀ (h' : Heap) (tk : Nat), (∀ b o, s.heap.get? b = some o → h'.get? b = some o) → Q [x0, .ref h'.objs.size] { s with heap := h'.push { cls := .type "list", data := .seq r.toArray }, toks := tk }) : wpAny (model prog w) A (unpackItems (.ref l) 2 (some 1)) Q E s := by
  have hsz : items.size = r.length + 1 := by rw [← Array.length_toList, hi]; rfl
  have hlt : l ≠ s.heap.objs.size := by obtain ⟨o, ho, _⟩ := hl; exact Nat.ne_of_lt (Heap.lt_size ho)
  unfold unpackItems
  refine wpAny_bind ?_
  unfold notIterableAtAll
  refine wpAny_bind (wpAny_specialOf hl.typeIs slot_list_iter.lookup ?_)
  refine wpAny_pure ?_
  simp only [Bool.false_eq_true, if_false]
  refine wpAny_bind (wpAny_holding (wpAny_pyIter_list hl ?_))
  refine wpAny_bind (wpAny_holding (kun_draw hlt 1 0 _ _ ⟨_, Heap.get?_push_size _ rfl, rfl, rfl⟩ (hl.push _) (by omega) fun h₁ hit₁ hs₁ => ?_))
  have hl₁ : h₁.IsList l items := (hl.push _).extBut hs₁.extBut hlt
  rw [Nat.zero_add] at hit₁
  have hit₁' := hit₁
  obtain ⟨oi, hoi, _⟩ := hit₁'
  have hl₁' := hl₁
  obtain ⟨ol, hol, _⟩ := hl₁'
  rw [List.drop_zero, hi]
  show wpAny _ _ (if ([x0] : List Value).length < 1 then _ else _) _ _ _
  rw [if_neg (by simp)]
  refine wpAny_bind (wpAny_holding (kun_collect (s := { s with heap := h₁ }) (T := "list_iterator") (.inr (.inr (.inl rfl))) (Walks.list (A := A.in1) hh s.heap.objs.size l hlt items) (fun j u st => st.1.typeIs) (k := 1) (by omega) ⟨hit₁, hl₁⟩ (Heap.lt_size hoi) (Heap.lt_size hol) (fun h₂ tk hk => ?_) (by rw [sizeLine_eq]; omega)))
  rw [hi]
  show wpAny _ _ (if r.length < 0 then _ else _) _ _ _
  rw [if_neg (by omega)]
  show wpAny _ _ (newList (r.take (r.length - 0)) >>= fun d => pure ([x0] ++ [d] ++ r.drop (r.length - 0))) _ _ _
  rw [Nat.sub_zero, List.take_length, List.drop_length]
  refine wpAny_bind (wpAny_newList (wpAny_pure (h h₂ tk fun b o e => ?_)) (by rw [sizeLine_eq]; omega))
  have hb : b ≠ s.heap.objs.size := Nat.ne_of_lt (Heap.lt_size e)
  exact hk b o hb (hs₁.extBut b o hb (Heap.get?_push_of_some _ e))
end
section
variable {X : Cx} {t1 t2 : Expr} {p pos : Pos} {k : Nat} {g1 g2 : TG}
def gStar (K : PySem.W.Frag) (g1 g2 : TG) : TG := fun v σ H Q => ∃ a x xs, v = .ref a ∧ SqL K H a (x :: xs) ∧ xs.length ≤ 1000 ∧ ∀ D, H D = none → g1 x σ (upd H D (.lst xs)) fun σ1 H1 => g2 (.ref D) σ1 H1 Q
theorem pg_star (hc : X.calm = true) (h1 : PG X t1 g1) (h2 : PG X t2 g2) (hn : (assignEach [t1, .Starred t2 p] X.env).map (·.2) = [assign t1 X.env, assign t2 X.env] := by rfl) (hst : (assignEach [t1, .Starred t2 p] X.env).findIdx? (·.1) = some 1 := by rfl) : PG X (.Tuple [t1, .Starred t2 p] k pos) (gStar X.K g1 g2) := by
  refine ⟨fun pins s σ H v u Q I r hw => ?_⟩
  obtain ⟨a, x, xs, rfl, hq, hl, hw⟩ := hw
  cases r
  obtain ⟨its, rv, hp, hz⟩ := I.list hq
  have hlen : (assignEach [t1, .Starred t2 p] X.env).length = 2 := by
    have := congrArg List.length hn
    simpa using this
  rw [assign_Tuple]
  refine wpAny_bind (wpAny_standAt ?_)
  unfold unpack
  rw [hlen, hst]
  cases rv with
  | @cons _ x0 _ r1 rx rr =>
    have hlr : r1.length = xs.length := rr.length.symm
    refine wpAny_bind (wpAny_holding (unpack_star (x0 := x0) (r := r1) hp.isList (I.ok.hd hc) (by simp) (by simp; omega) fun h' tk hk => ?_))
    have I1 : Inv X pins σ H { s with heap := h', toks := tk } := I.kept (t' := tk) hk
    have hf : H h'.objs.size = none := I1.hok.fresh (Nat.le_refl _)
    have I2 : Inv X pins σ (upd H h'.objs.size (.lst xs)) { s with heap := h'.push { cls := .type "list", data := .seq r1.toArray }, toks := tk } := I1.laid (t' := tk) (fun b u e => Heap.get?_push_of_some _ e) (Nat.le_refl _) ⟨by rw [sizeLine_eq]; omega, r1, 0, rr, Heap.get?_push_size _ rfl⟩
    rw [hn]
    refine assignInOrder_cons (thn (h1.run pins _ σ _ _ _ _ I2 rx (hw _ hf)) fun _ s1 ⟨σ1, H1, I3, q1⟩ => ?_)
    refine assignInOrder_cons (thn (h2.run pins s1 σ1 H1 (.ref h'.objs.size) _ _ I3 (show RelV (.ref h'.objs.size) (Value.ref h'.objs.size) from rfl) q1) fun _ s2 ⟨σ2, H2, I4, q2⟩ => ?_)
    exact wpAny_pure ⟨σ2, H2, I4, q2⟩
end
end L2
set_option maxHeartbeats 4000000
/-! DK: Desk -/
namespace Pm
open PySem PySem.Spec PyProof.Rows L2
structure DkS where
  cl : Option Cl
  st : Option Sst
def encOC : Option Cl → PyData
  | none => .none
  | some c => encC c
def encOS : Option Sst → PyData
  | none => .none
  | some s => encS s
theorem noL_OC (o : Option Cl) : noL (encOC o) = true := by
  cases o with
  | none => rfl
  | some c => rfl
theorem nCS : ¬ (("own_claim" : Str) = "own_state") := by decide +kernel
theorem nSC : ¬ (("own_state" : Str) = "own_claim") := by decide +kernel
def fldD (vc vs : V) : List (Str × V) := putF "own_state" vs (putF "own_claim" vc [])
theorem fldD_c (vc vs : V) : (fldD vc vs).lookup ("own_claim" : Str) = some vc := by
  unfold fldD
  rw [lookup_putF, if_neg nCS, lookup_putF, if_pos rfl]
theorem fldD_s (vc vs : V) : (fldD vc vs).lookup ("own_state" : Str) = some vs := by
  unfold fldD
  rw [lookup_putF, if_pos rfl]
theorem fldD_no (vc vs : V) {m : Str} (h1 : ¬ m = "own_claim") (h2 : ¬ m = "own_state") : (fldD vc vs).lookup m = none := by
  unfold fldD
  rw [lookup_putF, if_neg h2, lookup_putF, if_neg h1]
  all_goals rfl
theorem fldD_eq (vc vs : V) : fldD vc vs = ([("own_claim", vc), ("own_state", vs)] : List (Str × V)) := by
  unfold fldD
  simp only [putF, if_neg nCS]
theorem fldD_pc (vc vs x : V) : putF "own_claim" x (fldD vc vs) = fldD x vs := by
  rw [fldD_eq, fldD_eq]
  simp only [putF, if_true]
theorem fldD_ps (vc vs x : V) : putF "own_state" x (fldD vc vs) = fldD vc x := by
  rw [fldD_eq, fldD_eq]
  simp only [putF, if_neg nCS, if_true]
theorem fldD_len (vc vs : V) : (fldD vc vs).length < 1000 := by
  rw [fldD_eq]
  show 2 < 1000
  decide
structure TDk (K : PySem.W.Frag) (mg : Str → Option Value) (C : Addr) : Prop where
  cl : Cls K C
  nC : NoAttr K C "own_claim"
  nS : NoAttr K C "own_state"
  mgC : mg "Desk" = some (.ref C)
/-- a Desk at p -/
structure DkAt (K : PySem.W.Frag) (C : Addr) (H : Hp) (p : Addr) (D : DkS) : Prop where
  ob : ∃ dx vc vs, H p = some (.ins C dx (fldD vc vs)) ∧ Dp K H vc (encOC D.cl) ∧ Dp K H vs (encOS D.st)
section
variable {P : Program} {w : World} {K : PySem.W.Frag} {mg : Str → Option Value} {base : Heap} {C : Addr} {H H' : Hp} {p : Addr} {D : DkS}
theorem DkAt.same (h : DkAt K C H p D) (e : Same H H') : DkAt K C H' p D := by
  obtain ⟨dx, vc, vs, h1, h2, h3⟩ := h.ob
  exact ⟨dx, vc, vs, e _ _ h1, h2.same e, h3.same e⟩
theorem nd1 {dx : Addr} {fs : List (Str × V)} (h : H p = some (.ins C dx fs)) : NoDats [p] H := fun b hb => by
  rw [List.mem_singleton] at hb
  subst hb
  rw [h]
  exact noDat_ins
theorem DkAt.nd (h : DkAt K C H p D) : NoDats [p] H := by
  obtain ⟨dx, vc, vs, h1, _⟩ := h.ob
  exact nd1 h1
theorem kp1 {o : HO} : Kp [p] H (L2.upd H p o) := Kp.upd Kp.refl (by simp)
theorem DkAt.setS (h : H p = some (.ins C dx (fldD vc vs))) (h2 : Dp K H vc (encOC D.cl)) {x : V} {st : Option Sst} (hx : Dp K H x (encOS st)) : DkAt K C (L2.upd H p (.ins C dx (putF "own_state" x (fldD vc vs)))) p ⟨D.cl, st⟩ := by
  have k := kp1 (H := H) (p := p) (o := .ins C dx (putF "own_state" x (fldD vc vs)))
  rw [fldD_ps] at k ⊢
  exact ⟨dx, vc, x, upd_same, h2.kp k (nd1 h), hx.kp k (nd1 h)⟩
theorem DkAt.setC (h : H p = some (.ins C dx (fldD vc vs))) (h2 : Dp K H vs (encOS D.st)) {x : V} {cl : Option Cl} (hx : Dp K H x (encOC cl)) : DkAt K C (L2.upd H p (.ins C dx (putF "own_claim" x (fldD vc vs)))) p ⟨cl, D.st⟩ := by
  have k := kp1 (H := H) (p := p) (o := .ins C dx (putF "own_claim" x (fldD vc vs)))
  rw [fldD_pc] at k ⊢
  exact ⟨dx, x, vs, upd_same, hx.kp k (nd1 h), h2.kp k (nd1 h)⟩
/-! ### __init__, claim -/
def spDInit (C : Addr) (K : PySem.W.Frag) : Sp := fun vs H Q _ => ∃ (p dx : Addr), vs = [.ref p] ∧ H p = some (.ins C dx []) ∧ ∀ H', DkAt K C H' p ⟨none, none⟩ → Kp [p] H H' → Q .non H'
theorem sc_d_init : FnScope ["self"] ["self"] (defScope (inClass (top 79) 0)) := ⟨rfl, rfl, rfl, by decide +kernel, rfl, by decide +kernel, by decide +kernel⟩
theorem ok_dinit {f : Addr} {fd : FuncData} (F : Fun K "__init__" "Desk.__init__" (inClass (top 79) 0) f fd) (Z : TDk K mg C) : FnOk P w K mg base CX0 1 f fd ["self"] (spDInit C K) := by
  refine F.ok sc_d_init (fun vs H Q E h => ?_) (fun cdv A outer s H vs Q E hr h => ?_)
  · obtain ⟨p, dx, rfl, _⟩ := h
    rfl
  · obtain ⟨p, dx, rfl, hp, q⟩ := h
    refine ⟨_, pss_cons (ps_fld (pv 0) pe_non rfl) (pss_one (ps_fld (pv 0) pe_non rfl)), ?_⟩
    refine ⟨_, rfl, p, C, dx, [], rfl, hp, Z.cl, Z.nC, (by show 0 < 1000; decide), _, rfl, p, C, dx, _, rfl, upd_same, Z.cl, Z.nS, (by show 1 < 1000; decide), ?_⟩
    refine q _ ⟨dx, .non, .non, upd_same, .non, .non⟩ ?_
    exact Kp.upd kp1 (by simp)
def spDClaim (C : Addr) (K : PySem.W.Frag) : Sp := fun vs H Q _ => ∃ (p : Addr) (D : DkS), vs = [.ref p] ∧ DkAt K C H p D ∧ ∀ v, Dp K H v (encOC D.cl) → Q v H
theorem sc_d_claim : FnScope ["self"] ["self"] (defScope (inClass (top 79) 1)) := ⟨rfl, rfl, rfl, by decide +kernel, rfl, by decide +kernel, by decide +kernel⟩
theorem ok_dclaim {f : Addr} {fd : FuncData} (F : Fun K "claim" "Desk.claim" (inClass (top 79) 1) f fd) (Z : TDk K mg C) : FnOk P w K mg base CX0 1 f fd ["self"] (spDClaim C K) := by
  refine F.ok sc_d_claim (fun vs H Q E h => ?_) (fun cdv A outer s H vs Q E hr h => ?_)
  · obtain ⟨p, D, rfl, _⟩ := h
    rfl
  · obtain ⟨p, D, rfl, hD, q⟩ := h
    obtain ⟨dx, vc, vs, h1, h2, h3⟩ := hD.ob
    refine ⟨_, pss_one (ps_ret (pe_fld (pv 0) rfl)), ?_⟩
    exact ⟨_, rfl, p, C, dx, _, _, rfl, h1, Z.cl, Z.nC, fldD_c _ _, q _ h2⟩
/-! ### take_well -/
def wNums (w : Wl) : List Int := [w.top, w.drain, w.on, w.off, w.run, w.rest, w.starts, w.step, w.lag]
theorem encW_nums (w : Wl) : encW w = .tuple ((wNums w).map .int) := rfl
def sDone : Str := "done"
def spTake (C : Addr) (K : PySem.W.Frag) : Sp := fun vs H Q _ => ∃ (p : Addr) (v : V) (D : DkS) (w : Wl), vs = [.ref p, v] ∧ DkAt K C H p D ∧ WOk w ∧ Dp K H v (.list ((wNums w).map .int)) ∧ ∀ H', DkAt K C H' p ⟨some ⟨w, 0, 0, 0, w.top⟩, none⟩ → Kp [p] H H' → Q (.str sDone) H'
theorem sc_d_take_well : FnScope ["self", "numbers", "well"] ["self", "numbers"] (defScope (inClass (top 79) 3)) := ⟨rfl, rfl, rfl, by decide +kernel, rfl, by decide +kernel, by decide +kernel⟩
theorem ok_take {f : Addr} {fd : FuncData} (F : Fun K "take_well" "Desk.take_well" (inClass (top 79) 3) f fd) (T : Tx mg) (Z : TDk K mg C) (D_need_well : FnD P w K mg base 3 "need_well" g_need_well) : FnOk P w K mg base CX0 4 f fd ["self", "numbers"] (spTake C K) := by
  refine F.ok sc_d_take_well (fun vs H Q E h => ?_) (fun cdv A outer s H vs Q E hr h => ?_)
  · obtain ⟨p, v, D, w, rfl, _⟩ := h
    rfl
  · obtain ⟨p, v, D, wl, rfl, hD, hw, dv, q⟩ := h
    refine ⟨_, pss_cons (ps_set (i := 2) sc_d_take_well.nd rfl (Or.inl rfl) (d_call D_need_well (hr.mono (by decide)) (da_cons (d_callTy cv_tupOf call_tuple_of T.b_tuple (da_cons (pd 1) da_nil) (hv := bt_tuple)) da_nil)))
      (pss_cons (ps_fld (pv 0) (d_tup (da_cons (pd 2) (da_cons (d_tup (da_cons d_int (da_cons d_int da_nil))) (da_cons (d_tup (da_cons d_int (da_cons (d_ix (pd 2) d_int) da_nil))) da_nil)))) rfl)
      (pss_cons (ps_fld (pv 0) pe_non rfl)
      (pss_one (ps_ret (d_gstr T.c_DONE))))), ?_⟩
    obtain ⟨dx, vc, vs, h1, h2, h3⟩ := hD.ob
    refine ⟨[none, some (.list ((wNums wl).map .int)), none], encW wl, env_no (env_c dv (env_no env_nil)), ?_, fun v1 H1 s1 d1 => ?_⟩
    · have e1 := g_need_well_eq hw
      rw [encW_nums] at e1 ⊢
      simp -implicitDefEqProofs only [startD, sSeq, sSet, sRet, sIf, sSkip, sNever, sAsgG, sPar, fTup, f2, fSl, fPart, fNoPart, fVar, fC, fCons, fNil, fIf, fT, fCall, fIsa, fOrT, fAndT, fNotT, fAnd, fLc, fRng, fZip, fItemsT, fItemsL, List.map_cons, List.map_nil, List.length_cons, List.length_nil, List.replicate, List.cons_append, List.nil_append, List.getElem?_cons_zero, List.getElem?_cons_succ, List.set_cons_zero, List.set_cons_succ, Option.join_some, Option.join_none, Option.bind_some, Option.map_some, thenR_nx, thenR_rt, asI_int, asB_bool, gAdd_int, gSub_int, gMul_int, gCmpI_int, zBig, Nat.reduceAdd, Nat.reduceLeDiff, Nat.reduceSub, ite_true, ite_false, Bool.false_eq_true, decide_true, decide_false, gIs_none, decide_eq_true_eq, isD_tuple, isD_str, isD_int, isD_bool, isTuple_tuple, Bool.not_true, Bool.not_false, asTup_tup, asLst_lst, asRng_int, asZip_tup, wipeD, gNe, gEq, shaped_int, shaped_bool, shaped_none, and_self, condB_bool, gTupOf_lst, e1]
    refine ⟨[none, none, some (encW wl)], encC ⟨wl, 0, 0, 0, wl.top⟩, env_no (env_no (env_c d1 env_nil)), ?_, fun v2 H2 s2 d2 => ?_⟩
    · simp -implicitDefEqProofs only [startD, sSeq, sSet, sRet, sIf, sSkip, sNever, sAsgG, sPar, fTup, f2, fSl, fPart, fNoPart, fVar, fC, fCons, fNil, fIf, fT, fCall, fIsa, fOrT, fAndT, fNotT, fAnd, fLc, fRng, fZip, fItemsT, fItemsL, List.map_cons, List.map_nil, List.length_cons, List.length_nil, List.replicate, List.cons_append, List.nil_append, List.getElem?_cons_zero, List.getElem?_cons_succ, List.set_cons_zero, List.set_cons_succ, Option.join_some, Option.join_none, Option.bind_some, Option.map_some, thenR_nx, thenR_rt, asI_int, asB_bool, gAdd_int, gSub_int, gMul_int, gCmpI_int, zBig, Nat.reduceAdd, Nat.reduceLeDiff, Nat.reduceSub, ite_true, ite_false, Bool.false_eq_true, decide_true, decide_false, gIs_none, decide_eq_true_eq, isD_tuple, isD_str, isD_int, isD_bool, isTuple_tuple, Bool.not_true, Bool.not_false, asTup_tup, asLst_lst, asRng_int, asZip_tup, wipeD, gNe, gEq, shaped_int, shaped_bool, shaped_none, and_self, condB_bool, ixW0]
      rfl
    have s12 := s1.trans s2
    have h12 := s12 _ _ h1
    refine ⟨_, rfl, p, C, dx, _, rfl, h12, Z.cl, Z.nC, fldD_len _ _, ?_⟩
    have D3 := DkAt.setC (D := D) h12 (h3.same s12) (cl := some ⟨wl, 0, 0, 0, wl.top⟩) d2
    obtain ⟨dx', vc', vs', g1, g2, g3⟩ := D3.ob
    rw [fldD_pc]
    rw [fldD_pc, upd_same] at g1
    cases g1
    refine ⟨_, rfl, p, C, dx, _, rfl, upd_same, Z.cl, Z.nS, fldD_len _ _, ?_⟩
    rw [fldD_pc] at g2
    have D4 := DkAt.setS (D := ⟨some ⟨wl, 0, 0, 0, wl.top⟩, D.st⟩) (st := none) (upd_same (H := H2) (a := p) (o := .ins C dx (fldD v2 vs))) g2 (x := .non) .non
    refine ⟨[none, none, none], .str sDone, env_no (env_no (env_no env_nil)), rfl, fun v5 H5 s5 d5 => ?_⟩
    rw [dp_str d5]
    refine q H5 (D4.same s5) ?_
    exact ((s12.kp.trans kp1).trans kp1).trans s5.kp
/-! ### change -/
def putC (c : Cl) (pl a b : Int) : Cl := if pl = 1 then ⟨c.w, a, b, c.frm, c.to⟩ else ⟨c.w, c.lo, c.hi, a, b⟩
def spChange (C : Addr) (K : PySem.W.Frag) : Sp := fun vs H Q _ => ∃ (p : Addr) (v : V) (D : DkS) (c : Cl) (pl a b : Int), vs = [.ref p, .int pl, v] ∧ DkAt K C H p D ∧ D.cl = some c ∧ (pl = 1 ∨ pl = 2) ∧ COk (putC c pl a b) ∧ Dp K H v (.list [.int a, .int b]) ∧ ∀ H', DkAt K C H' p ⟨some (putC c pl a b), D.st⟩ → Kp [p] H H' → Q (.str sDone) H'
theorem sc_d_change : FnScope ["self", "place", "numbers", "parts"] ["self", "place", "numbers"] (defScope (inClass (top 79) 4)) := ⟨rfl, rfl, rfl, by decide +kernel, rfl, by decide +kernel, by decide +kernel⟩
theorem ok_change {f : Addr} {fd : FuncData} (F : Fun K "change" "Desk.change" (inClass (top 79) 4) f fd) (T : Tx mg) (Z : TDk K mg C) (D_need_claim : FnD P w K mg base 3 "need_claim" g_need_claim) : FnOk P w K mg base CX0 4 f fd ["self", "place", "numbers"] (spChange C K) := by
  refine F.ok sc_d_change (fun vs H Q E h => ?_) (fun cdv A outer s H vs Q E hr h => ?_)
  · obtain ⟨p, v, D, c, pl, a, b, rfl, _⟩ := h
    rfl
  · obtain ⟨p, v, D, c, pl, a, b, rfl, hD, hcl, hpl, hc, dv, q⟩ := h
    refine ⟨_, pss_cons (ps_set (i := 3) sc_d_change.nd rfl (Or.inl rfl) (pe_callTy call_list_of (by rfl) T.b_list bt_list (pa_cons (pe_fld (pv 0) rfl) pa_nil)))
      (pss_cons (ps_asg (d_callTy cv_tupOf call_tuple_of T.b_tuple (da_cons (pd 2) da_nil) (hv := bt_tuple)) (pg_sub (pv 3) (pv 1) set_list))
      (pss_cons (ps_fld (pv 0) (d_call D_need_claim (hr.mono (by decide)) (da_cons (d_callTy cv_tupOf call_tuple_of T.b_tuple (da_cons (pd 3) da_nil) (hv := bt_tuple)) da_nil)) rfl)
      (pss_one (ps_ret (d_gstr T.c_DONE))))), ?_⟩
    obtain ⟨dx, vc, vs, h1, h2, h3⟩ := hD.ob
    rw [hcl] at h2
    obtain ⟨pc, xs, rfl, hT, dxs⟩ := dp_tup (show Dp K H vc (encC c) from h2)
    obtain ⟨x0, x1, x2, rfl, d0, d1, d2⟩ := dpa3 dxs
    refine ⟨_, rfl, p, C, dx, _, _, rfl, h1, Z.cl, Z.nC, fldD_c _ _, pc, _, rfl, .inr hT, fun l hl => ?_⟩
    have sl : Same H (upd H l (.lst [x0, x1, x2])) := Same.new hl
    -- parts[place] = tuple(numbers)
    refine ⟨[none, none, some (.list [.int a, .int b]), none], encP a b, env_no (env_no (env_c (dv.same sl) (env_no env_nil))), ?_, fun v2 H2 s2 e2 => ?_⟩
    · simp -implicitDefEqProofs only [startD, sSeq, sSet, sRet, sIf, sSkip, sNever, sAsgG, sPar, fTup, f2, fSl, fPart, fNoPart, fVar, fC, fCons, fNil, fIf, fT, fCall, fIsa, fOrT, fAndT, fNotT, fAnd, fLc, fRng, fZip, fItemsT, fItemsL, List.map_cons, List.map_nil, List.length_cons, List.length_nil, List.replicate, List.cons_append, List.nil_append, List.getElem?_cons_zero, List.getElem?_cons_succ, List.set_cons_zero, List.set_cons_succ, Option.join_some, Option.join_none, Option.bind_some, Option.map_some, thenR_nx, thenR_rt, asI_int, asB_bool, gAdd_int, gSub_int, gMul_int, gCmpI_int, zBig, Nat.reduceAdd, Nat.reduceLeDiff, Nat.reduceSub, ite_true, ite_false, Bool.false_eq_true, decide_true, decide_false, gIs_none, decide_eq_true_eq, isD_tuple, isD_str, isD_int, isD_bool, isTuple_tuple, Bool.not_true, Bool.not_false, asTup_tup, asLst_lst, asRng_int, asZip_tup, wipeD, gNe, gEq, shaped_int, shaped_bool, shaped_none, and_self, condB_bool, gTupOf_lst]
      rfl
    have hl2 := s2 _ _ (upd_same (H := H) (a := l) (o := .lst [x0, x1, x2]))
    have hj : ∃ j, ixN 3 pl = some j ∧ (j : Int) = pl := by
      rcases hpl with rfl | rfl
      · exact ⟨1, rfl, rfl⟩
      · exact ⟨2, rfl, rfl⟩
    obtain ⟨j, hj1, hj2⟩ := hj
    refine ⟨_, rfl, _, rfl, l, _, pl, j, rfl, rfl, hl2, hj1, ?_⟩
    have ns : NoSeq (H2 l) := by rw [hl2]; exact noSeq_lst
    have s02 := sl.trans s2
    have d0' := Dp.upd (o := .lst ([x0, x1, x2].set j v2)) ns (d0.same s02) rfl
    have d1' := Dp.upd (o := .lst ([x0, x1, x2].set j v2)) ns (d1.same s02) rfl
    have d2' := Dp.upd (o := .lst ([x0, x1, x2].set j v2)) ns (d2.same s02) rfl
    have e2' := Dp.upd (o := .lst ([x0, x1, x2].set j v2)) ns e2 rfl
    have hnew : Dp K (upd H2 l (.lst ([x0, x1, x2].set j v2))) (.ref l) (.list [encW c.w, encP (putC c pl a b).lo (putC c pl a b).hi, encP (putC c pl a b).frm (putC c pl a b).to]) := by
      refine .lst (SqL.of upd_same) ?_
      rcases hpl with rfl | rfl
      · have : j = 1 := by omega
        subst this
        exact .cons d0' (.cons e2' (.cons d2' .nil))
      · have : j = 2 := by omega
        subst this
        exact .cons d0' (.cons d1' (.cons e2' .nil))
    have sl3 : Same H (upd H2 l (.lst ([x0, x1, x2].set j v2))) := s02.mut hl
    -- self.own_claim = need_claim(tuple(parts))
    refine ⟨[none, none, none, some (.list [encW c.w, encP (putC c pl a b).lo (putC c pl a b).hi, encP (putC c pl a b).frm (putC c pl a b).to])], encC (putC c pl a b), env_no (env_no (env_no (env_c hnew env_nil))), ?_, fun v4 H4 s4 d4 => ?_⟩
    · have ew : (putC c pl a b).w = c.w := by unfold putC; split <;> rfl
      have e5 := g_need_claim_eq hc
      have e6 : PyData.tuple [encW c.w, encP (putC c pl a b).lo (putC c pl a b).hi, encP (putC c pl a b).frm (putC c pl a b).to] = encC (putC c pl a b) := by rw [← ew]; rfl
      simp -implicitDefEqProofs only [startD, sSeq, sSet, sRet, sIf, sSkip, sNever, sAsgG, sPar, fTup, f2, fSl, fPart, fNoPart, fVar, fC, fCons, fNil, fIf, fT, fCall, fIsa, fOrT, fAndT, fNotT, fAnd, fLc, fRng, fZip, fItemsT, fItemsL, List.map_cons, List.map_nil, List.length_cons, List.length_nil, List.replicate, List.cons_append, List.nil_append, List.getElem?_cons_zero, List.getElem?_cons_succ, List.set_cons_zero, List.set_cons_succ, Option.join_some, Option.join_none, Option.bind_some, Option.map_some, thenR_nx, thenR_rt, asI_int, asB_bool, gAdd_int, gSub_int, gMul_int, gCmpI_int, zBig, Nat.reduceAdd, Nat.reduceLeDiff, Nat.reduceSub, ite_true, ite_false, Bool.false_eq_true, decide_true, decide_false, gIs_none, decide_eq_true_eq, isD_tuple, isD_str, isD_int, isD_bool, isTuple_tuple, Bool.not_true, Bool.not_false, asTup_tup, asLst_lst, asRng_int, asZip_tup, wipeD, gNe, gEq, shaped_int, shaped_bool, shaped_none, and_self, condB_bool, gTupOf_lst, e6, e5]
    have s14 := sl3.trans s4
    have h14 := s14 _ _ h1
    refine ⟨_, rfl, p, C, dx, _, rfl, h14, Z.cl, Z.nC, fldD_len _ _, ?_⟩
    have D5 := DkAt.setC (D := D) h14 (h3.same s14) (cl := some (putC c pl a b)) d4
    refine ⟨[none, none, none, none], .str sDone, env_no (env_no (env_no (env_no env_nil))), rfl, fun v5 H5 s5 d5 => ?_⟩
    rw [dp_str d5]
    exact q H5 (D5.same s5) ((s14.kp.trans kp1).trans s5.kp)
/-! ### beat -/
structure BeatOk (c : Cl) (s : Sst) (i : Int) : Prop where
  wk : WOk c.w
  sk : SOk c.w s
  ik : 0 ≤ i ∧ i ≤ 9
  fig : ∀ t, beatS c.w s i = .st t → (0 ≤ t.runs.sum ∧ t.runs.sum ≤ 9) ∧ 0 ≤ t.lv ∧ t.lv ≤ 9
def beatD (D : DkS) (c : Cl) (s : Sst) (i : Int) : DkS × Str := match beatS c.w s i with
  | .st t => (⟨D.cl, some t⟩, lineC [t.runs.sum, t.lv])
  | r => (D, wordOf r)
def spBeat (C : Addr) (K : PySem.W.Frag) : Sp := fun vs H Q _ => ∃ (p : Addr) (D : DkS) (c : Cl) (s : Sst) (i : Int), vs = [.ref p, .int i] ∧ DkAt K C H p D ∧ D.cl = some c ∧ D.st = some s ∧ BeatOk c s i ∧ ∀ H', DkAt K C H' p (beatD D c s i).1 → Kp [p] H H' → Q (.str (beatD D c s i).2) H'
theorem sc_d_beat : FnScope ["self", "inflow", "found"] ["self", "inflow"] (defScope (inClass (top 79) 7)) := ⟨rfl, rfl, rfl, by decide +kernel, rfl, by decide +kernel, by decide +kernel⟩
theorem ok_beat {f : Addr} {fd : FuncData} (F : Fun K "beat" "Desk.beat" (inClass (top 79) 7) f fd) (T : Tx mg) (Z : TDk K mg C) (D_after : FnD P w K mg base 5 "after" g_after) (D_row_told : FnD P w K mg base 1 "row_told" g_row_told) : FnOk P w K mg base CX0 6 f fd ["self", "inflow"] (spBeat C K) := by
  obtain ⟨aA, fdA, psA, mA, kA, bA, GA⟩ := D_after.ex
  refine F.ok sc_d_beat (fun vs H Q E h => ?_) (fun cdv A outer s H vs Q E hr h => ?_)
  · obtain ⟨p, D, c, s, i, rfl, _⟩ := h
    rfl
  · obtain ⟨p, D, c, st, i, rfl, hD, hcl, hst, hB, q⟩ := h
    refine ⟨_, pss_cons (ps_if (pt_cmpR op_isN (pe_fld (pv 0) rfl) pe_non (nomark _)) (pss_one ps_never) pss_nil)
      (pss_cons (ps_set (i := 2) sc_d_beat.nd rfl (Or.inl rfl) (pe_call GA hr rfl mA kA bA .nil pass0 (pa_cons (pe_ix ix_tup (pe_fld (pv 0) rfl) pe_int (fun _ _ => rfl)) (pa_cons (pe_fld (pv 0) rfl) (pa_cons (pv 1) pa_nil)))))
      (pss_cons (ps_if (t_cmp (op_inT hr.u66) (ov_in) (pd 2) (d_tup (da_cons (d_gstr T.c_OVER) (da_cons (d_gstr T.c_DRY) da_nil))) (by rfl)) (pss_one (ps_ret (pv 2))) pss_nil)
      (pss_cons (ps_fld (pv 0) (pv 2) rfl)
      (pss_one (s_ret (d_call D_row_told (hr.mono (by decide)) (da_cons (d_tup (da_cons (d_callB cv_sum (cr_sumD rfl) T.b_sum (da_cons (d_ix (pd 2) d_int) da_nil) (hv := bt_sum)) (da_cons (d_ix (pd 2) d_int) da_nil))) da_nil))))))), ?_⟩
    obtain ⟨dx, vc, vs, h1, h2, h3⟩ := hD.ob
    rw [hcl] at h2
    rw [hst] at h3
    obtain ⟨pc, xs, rfl, hT, dxs⟩ := dp_tup (show Dp K H vc (encC c) from h2)
    obtain ⟨ps, ys, rfl, hT2, dys⟩ := dp_tup (show Dp K H vs (encS st) from h3)
    obtain ⟨x0, x1, x2, rfl, d0, d1, d2⟩ := dpa3 dxs
    refine ⟨_, rfl, p, C, dx, _, .ref ps, rfl, h1, Z.cl, Z.nS, fldD_s _ _, rfl, _, rfl, ?_⟩
    refine iteF ?_
    refine ⟨_, rfl, p, C, dx, _, _, rfl, h1, Z.cl, Z.nC, fldD_c _ _, pc, _, 0, x0, rfl, rfl, hT, rfl, _, rfl, p, C, dx, _, _, rfl, h1, Z.cl, Z.nS, fldD_s _ _, _, rfl, ?_⟩
    refine ⟨[encW c.w, encS st, .int i], encR (beatS c.w st i), .cons d0 (.cons (.tup hT2 dys) (.cons (.int i) .nil)), g_after_eq hB.wk hB.sk ⟨hB.ik.1, by have := hB.ik.2; omega⟩, fun v1 H1 s1 e1 => ?_⟩
    -- if found in (OVER, DRY): return found
    have D1 := hD.same s1
    have h11 := s1 _ _ h1
    refine ⟨[none, none, some (encR (beatS c.w st i))], isWord (beatS c.w st i), env_no (env_no (env_c e1 env_nil)), ?_, fun H2 s2 => ?_⟩
    · have e9 := in_words (beatS c.w st i)
      simp -implicitDefEqProofs only [startD, sSeq, sSet, sRet, sIf, sSkip, sNever, sAsgG, sPar, fTup, f2, fSl, fPart, fNoPart, fVar, fC, fCons, fNil, fIf, fT, fCall, fIsa, fOrT, fAndT, fNotT, fAnd, fLc, fRng, fZip, fItemsT, fItemsL, List.map_cons, List.map_nil, List.length_cons, List.length_nil, List.replicate, List.cons_append, List.nil_append, List.getElem?_cons_zero, List.getElem?_cons_succ, List.set_cons_zero, List.set_cons_succ, Option.join_some, Option.join_none, Option.bind_some, Option.map_some, thenR_nx, thenR_rt, asI_int, asB_bool, gAdd_int, gSub_int, gMul_int, gCmpI_int, zBig, Nat.reduceAdd, Nat.reduceLeDiff, Nat.reduceSub, ite_true, ite_false, Bool.false_eq_true, decide_true, decide_false, gIs_none, decide_eq_true_eq, isD_tuple, isD_str, isD_int, isD_bool, isTuple_tuple, Bool.not_true, Bool.not_false, asTup_tup, asLst_lst, asRng_int, asZip_tup, wipeD, gNe, gEq, shaped_int, shaped_bool, shaped_none, and_self, condB_bool]
      rw [over_in, e9]
      rfl
    have D2 := D1.same s2
    unfold beatD at q
    cases hb : beatS c.w st i with
    | over =>
      rw [hb] at q e1
      refine iteT ?_
      refine ⟨v1, rfl, ?_⟩
      rw [dp_str (show Dp K H1 v1 (.str sOver) from e1)]
      exact q H2 D2 (s1.trans s2).kp
    | dry =>
      rw [hb] at q e1
      refine iteT ?_
      refine ⟨v1, rfl, ?_⟩
      rw [dp_str (show Dp K H1 v1 (.str sDry) from e1)]
      exact q H2 D2 (s1.trans s2).kp
    | st t =>
      rw [hb] at q e1
      have hfig := hB.fig t hb
      refine iteF ?_
      have h12 := s2 _ _ h11
      have e2 : Dp K H2 v1 (encS t) := e1.same s2
      have s12 := s1.trans s2
      refine ⟨_, rfl, _, rfl, p, C, dx, _, rfl, h12, Z.cl, Z.nS, fldD_len _ _, ?_⟩
      have hvc : Dp K H2 (.ref pc) (encOC D.cl) := by rw [hcl]; exact h2.same s12
      have D3 := DkAt.setS (D := D) h12 hvc (st := some t) e2
      have kk := kp1 (H := H2) (p := p) (o := .ins C dx (putF "own_state" v1 (fldD (.ref pc) (.ref ps))))
      have e3 := e2.kp kk (nd1 h12)
      refine ⟨[none, none, some (encS t)], .rt (.str (lineC [t.runs.sum, t.lv])), env_no (env_no (env_c e3 env_nil)), ?_, fun ρ' e9 => (nomatch e9), fun d e9 v4 H4 s4 d4 => ?_⟩
      · have f1 : gIx (encS t) (.int 2) = some (encI t.runs) := rfl
        have f3 : gIx (encS t) (.int 0) = some (.int t.lv) := rfl
        have f4 : gSum [encI t.runs] = some (.int t.runs.sum) := by unfold encI; rw [gSum_tup, intsOf_map]; rfl
        simp -implicitDefEqProofs only [startD, sSeq, sSet, sRet, sIf, sSkip, sNever, sAsgG, sPar, fTup, f2, fSl, fPart, fNoPart, fVar, fC, fCons, fNil, fIf, fT, fCall, fIsa, fOrT, fAndT, fNotT, fAnd, fLc, fRng, fZip, fItemsT, fItemsL, List.map_cons, List.map_nil, List.length_cons, List.length_nil, List.replicate, List.cons_append, List.nil_append, List.getElem?_cons_zero, List.getElem?_cons_succ, List.set_cons_zero, List.set_cons_succ, Option.join_some, Option.join_none, Option.bind_some, Option.map_some, thenR_nx, thenR_rt, asI_int, asB_bool, gAdd_int, gSub_int, gMul_int, gCmpI_int, zBig, Nat.reduceAdd, Nat.reduceLeDiff, Nat.reduceSub, ite_true, ite_false, Bool.false_eq_true, decide_true, decide_false, gIs_none, decide_eq_true_eq, isD_tuple, isD_str, isD_int, isD_bool, isTuple_tuple, Bool.not_true, Bool.not_false, asTup_tup, asLst_lst, asRng_int, asZip_tup, wipeD, gNe, gEq, shaped_int, shaped_bool, shaped_none, and_self, condB_bool, f1, f3, f4, g_row_told_eq hfig.1.1 hfig.1.2 hfig.2.1 hfig.2.2]
      cases e9
      rw [dp_str d4]
      exact q H4 (D3.same s4) ((s12.kp.trans kk).trans s4.kp)
/-! ### counted, for begin -/
def spBegin (C : Addr) (K : PySem.W.Frag) : Sp := fun vs H Q _ => ∃ (p : Addr) (vn vr : V) (D : DkS) (c : Cl) (n : Option Int) (lv : Int), vs = [.ref p, .str "begin", vn, vr] ∧ DkAt K C H p D ∧ D.cl = some c ∧ WOk c.w ∧ NumOk n ∧ Dp K H vn (encO n) ∧ Dp K H vr (.list [.str (dg lv)]) ∧ (0 ≤ lv ∧ lv ≤ c.w.top ∧ lv ≤ 9) ∧
  ∀ H', DkAt K C H' p ⟨D.cl, some (begS c.w n lv)⟩ → Kp [p] H H' → Q (.str sDone) H'
theorem sc_d_counted : FnScope ["self", "word", "number", "rest"] ["self", "word", "number", "rest"] (defScope (inClass (top 79) 8)) := ⟨rfl, rfl, rfl, by decide +kernel, rfl, by decide +kernel, by decide +kernel⟩
theorem ok_counted {f : Addr} {fd : FuncData} (F : Fun K "counted" "Desk.counted" (inClass (top 79) 8) f fd) (T : Tx mg) (Z : TDk K mg C) (D_begun : FnD P w K mg base 4 "begun" g_begun) (D_integer_of : FnD P w K mg base 1 "integer_of" g_integer_of) : FnOk P w K mg base CX0 5 f fd ["self", "word", "number", "rest"] (spBegin C K) := by
  obtain ⟨aA, fdA, psA, mA, kA, bA, GA⟩ := D_begun.ex
  refine F.ok sc_d_counted (fun vs H Q E h => ?_) (fun cdv A outer s H vs Q E hr h => ?_)
  · obtain ⟨p, vn, vr, D, c, n, lv, rfl, _⟩ := h
    rfl
  · obtain ⟨p, vn, vr, D, c, n, lv, rfl, hD, hcl, hw, hn, dn, dr, hlv, q⟩ := h
    refine ⟨_, pss_cons (ps_if (PW.pt (w_and (t_cmp (op_eqD hr.units) (ov_eq) (pd 1) d_str (nomark _)) (w_and1 (t_cmp (op_eqD hr.units) (ov_eq) (pd 3) (d_lst da_nil) (nomark _))))) (pss_one ps_never) pss_nil)
      (pss_cons (ps_if (PW.pt (w_and (t_cmp (op_eqD hr.units) (ov_eq) (pd 1) d_str (nomark _)) (w_and1 (t_cmp (op_eqD hr.units) (ov_eq) (pd 3) (d_lst da_nil) (nomark _))))) (pss_one ps_never) pss_nil)
      (pss_cons (ps_if (PW.pt (w_or (t_cmp (op_neD hr.units) (ov_ne) (pd 1) d_str (nomark _)) (w_or1 (t_cmp (op_neD hr.units) (ov_ne) (d_callB cv_len call_lenP T.b_len (da_cons (pd 3) da_nil) (hv := bt_len)) d_int (nomark _))))) (pss_one ps_never) pss_nil)
      (pss_cons (ps_fld (pv 0) (pe_call GA hr rfl mA kA bA .nil pass0 (pa_cons (pe_ix ix_tup (pe_fld (pv 0) rfl) pe_int (fun _ _ => rfl)) (pa_cons (pv 2) (pa_cons (d_call D_integer_of (hr.mono (by decide)) (da_cons (d_ix (pd 3) d_int) da_nil)) pa_nil)))) rfl)
      (pss_one (ps_ret (d_gstr T.c_DONE)))))), ?_⟩
    have b1 : PyData.eqv (.str "begin") (.str "verdict") = false := by decide +kernel
    have b2 : PyData.eqv (.str "begin") (.str "swing") = false := by decide +kernel
    have b3 : PyData.eqv (.str "begin") (.str "begin") = true := by decide +kernel
    have z1 : SeqAt.shaped (.str "begin") = true := by decide +kernel
    have z2 : SeqAt.shaped (.str "verdict") = true := by decide +kernel
    have z3 : SeqAt.shaped (.str "swing") = true := by decide +kernel
    have env0 : ∀ {H'}, Same H H' → EnvD K H' [some (.ref p), some (.str "begin"), some vn, some vr] [none, some (.str "begin"), some (encO n), some (.list [.str (dg lv)])] := fun e => env_no (env_c (.str _) (env_c (dn.same e) (env_c (dr.same e) env_nil)))
    refine ⟨_, false, env0 (Same.refl _), ?_, fun H1 s1 => ?_⟩
    · simp -implicitDefEqProofs only [startD, sSeq, sSet, sRet, sIf, sSkip, sNever, sAsgG, sPar, fTup, f2, fSl, fPart, fNoPart, fVar, fC, fCons, fNil, fIf, fT, fCall, fIsa, fOrT, fAndT, fNotT, fAnd, fLc, fRng, fZip, fItemsT, fItemsL, List.map_cons, List.map_nil, List.length_cons, List.length_nil, List.replicate, List.cons_append, List.nil_append, List.getElem?_cons_zero, List.getElem?_cons_succ, List.set_cons_zero, List.set_cons_succ, Option.join_some, Option.join_none, Option.bind_some, Option.map_some, thenR_nx, thenR_rt, asI_int, asB_bool, gAdd_int, gSub_int, gMul_int, gCmpI_int, zBig, Nat.reduceAdd, Nat.reduceLeDiff, Nat.reduceSub, ite_true, ite_false, Bool.false_eq_true, decide_true, decide_false, gIs_none, decide_eq_true_eq, isD_tuple, isD_str, isD_int, isD_bool, isTuple_tuple, Bool.not_true, Bool.not_false, asTup_tup, asLst_lst, asRng_int, asZip_tup, wipeD, gNe, gEq, shaped_int, shaped_bool, shaped_none, and_self, condB_bool, b1, z1, z2]
    refine iteF ?_
    refine ⟨_, false, env0 s1, ?_, fun H2 s2 => ?_⟩
    · simp -implicitDefEqProofs only [startD, sSeq, sSet, sRet, sIf, sSkip, sNever, sAsgG, sPar, fTup, f2, fSl, fPart, fNoPart, fVar, fC, fCons, fNil, fIf, fT, fCall, fIsa, fOrT, fAndT, fNotT, fAnd, fLc, fRng, fZip, fItemsT, fItemsL, List.map_cons, List.map_nil, List.length_cons, List.length_nil, List.replicate, List.cons_append, List.nil_append, List.getElem?_cons_zero, List.getElem?_cons_succ, List.set_cons_zero, List.set_cons_succ, Option.join_some, Option.join_none, Option.bind_some, Option.map_some, thenR_nx, thenR_rt, asI_int, asB_bool, gAdd_int, gSub_int, gMul_int, gCmpI_int, zBig, Nat.reduceAdd, Nat.reduceLeDiff, Nat.reduceSub, ite_true, ite_false, Bool.false_eq_true, decide_true, decide_false, gIs_none, decide_eq_true_eq, isD_tuple, isD_str, isD_int, isD_bool, isTuple_tuple, Bool.not_true, Bool.not_false, asTup_tup, asLst_lst, asRng_int, asZip_tup, wipeD, gNe, gEq, shaped_int, shaped_bool, shaped_none, and_self, condB_bool, b2, z1, z3]
    refine iteF ?_
    refine ⟨_, false, env0 (s1.trans s2), ?_, fun H3 s3 => ?_⟩
    · have e1 : gLen [.list [.str (dg lv)]] = some (.int 1) := rfl
      have e2 : PyData.eqv (.int 1) (.int 1) = true := by decide +kernel
      simp -implicitDefEqProofs only [startD, sSeq, sSet, sRet, sIf, sSkip, sNever, sAsgG, sPar, fTup, f2, fSl, fPart, fNoPart, fVar, fC, fCons, fNil, fIf, fT, fCall, fIsa, fOrT, fAndT, fNotT, fAnd, fLc, fRng, fZip, fItemsT, fItemsL, List.map_cons, List.map_nil, List.length_cons, List.length_nil, List.replicate, List.cons_append, List.nil_append, List.getElem?_cons_zero, List.getElem?_cons_succ, List.set_cons_zero, List.set_cons_succ, Option.join_some, Option.join_none, Option.bind_some, Option.map_some, thenR_nx, thenR_rt, asI_int, asB_bool, gAdd_int, gSub_int, gMul_int, gCmpI_int, zBig, Nat.reduceAdd, Nat.reduceLeDiff, Nat.reduceSub, ite_true, ite_false, Bool.false_eq_true, decide_true, decide_false, gIs_none, decide_eq_true_eq, isD_tuple, isD_str, isD_int, isD_bool, isTuple_tuple, Bool.not_true, Bool.not_false, asTup_tup, asLst_lst, asRng_int, asZip_tup, wipeD, gNe, gEq, shaped_int, shaped_bool, shaped_none, and_self, condB_bool, b3, z1, e1, e2]
    refine iteF ?_
    have s13 := (s1.trans s2).trans s3
    have D3 := hD.same s13
    obtain ⟨dx, vc, vs, h1, h2, h3⟩ := D3.ob
    rw [hcl] at h2
    obtain ⟨pc, xs, rfl, hT, dxs⟩ := dp_tup (show Dp K H3 vc (encC c) from h2)
    obtain ⟨x0, x1, x2, rfl, d0, d1, d2⟩ := dpa3 dxs
    refine ⟨_, rfl, p, C, dx, _, _, rfl, h1, Z.cl, Z.nC, fldD_c _ _, pc, _, 0, x0, rfl, rfl, hT, rfl, _, rfl, _, .int lv, env0 s13, ?_, fun v4 H4 s4 d4 => ?_⟩
    · have e1 : gIx (.list [.str (dg lv)]) (.int 0) = some (.str (dg lv)) := rfl
      simp -implicitDefEqProofs only [startD, sSeq, sSet, sRet, sIf, sSkip, sNever, sAsgG, sPar, fTup, f2, fSl, fPart, fNoPart, fVar, fC, fCons, fNil, fIf, fT, fCall, fIsa, fOrT, fAndT, fNotT, fAnd, fLc, fRng, fZip, fItemsT, fItemsL, List.map_cons, List.map_nil, List.length_cons, List.length_nil, List.replicate, List.cons_append, List.nil_append, List.getElem?_cons_zero, List.getElem?_cons_succ, List.set_cons_zero, List.set_cons_succ, Option.join_some, Option.join_none, Option.bind_some, Option.map_some, thenR_nx, thenR_rt, asI_int, asB_bool, gAdd_int, gSub_int, gMul_int, gCmpI_int, zBig, Nat.reduceAdd, Nat.reduceLeDiff, Nat.reduceSub, ite_true, ite_false, Bool.false_eq_true, decide_true, decide_false, gIs_none, decide_eq_true_eq, isD_tuple, isD_str, isD_int, isD_bool, isTuple_tuple, Bool.not_true, Bool.not_false, asTup_tup, asLst_lst, asRng_int, asZip_tup, wipeD, gNe, gEq, shaped_int, shaped_bool, shaped_none, and_self, condB_bool, e1, g_integer_of_eq hlv.1 hlv.2.2]
    refine ⟨[encW c.w, encO n, .int lv], encS (begS c.w n lv), .cons (d0.same s4) (.cons (dn.same (s13.trans s4)) (.cons d4 .nil)), g_begun_eq hw hn ⟨hlv.1, hlv.2.1⟩, fun v5 H5 s5 d5 => ?_⟩
    have s35 := s4.trans s5
    have h15 := s35 _ _ h1
    refine ⟨_, rfl, p, C, dx, _, rfl, h15, Z.cl, Z.nS, fldD_len _ _, ?_⟩
    have hvc : Dp K H5 (.ref pc) (encOC D.cl) := by rw [hcl]; exact h2.same s35
    have D6 := DkAt.setS (D := D) h15 hvc (st := some (begS c.w n lv)) d5
    refine ⟨[none, none, none, none], .str sDone, env_no (env_no (env_no (env_no env_nil))), rfl, fun v7 H7 s7 d7 => ?_⟩
    rw [dp_str d7]
    exact q H7 (D6.same s7) (((s13.trans s35).kp.trans kp1).trans s7.kp)
end
end Pm
set_option maxHeartbeats 4000000
/-! DM: what is said to a desk -/
namespace L2
open PySem PySem.Spec PyProof.Rows
section
variable {K : PySem.W.Frag} {X : Cx} {e tg : Expr} {pos : Pos}
theorem pe_nope : PE X e (fun _ _ _ => False) := ⟨fun _ _ _ _ _ _ h => h.elim⟩
theorem lc_read {gt : TG} {js vs : List Nat} {set : PyData → DE → Option DE} {fi : DE → Option (List PyData)} {fe : DE → Option PyData} (dg : DG K gt js set) (hjs : ∀ j ∈ js, j ∈ vs) {σ : St} {H : Hp} {Q : VK} (h : tD K (fLc fi set fe vs) σ H Q) :
    tLc (iD K fi) gt tYes (tD K fe) vs σ H Q := by
  obtain ⟨ρ, d, hen, hf, q⟩ := h
  obtain ⟨xs, h1, h2⟩ := Option.bind_eq_some_iff.mp hf
  split at h2
  · rename_i hz
    obtain ⟨ys, h3, h2⟩ := Option.bind_eq_some_iff.mp h2
    split at h2 <;> first | (cases h2; done) | skip
    rename_i hnl
    cases h2
    obtain ⟨h4, h5⟩ := lcRun_get h3
    refine ⟨ρ, xs, hen, h1, fun J H1 s1 W D hD => ?_⟩
    refine ⟨fun i m H' => m = xs.length - i ∧ i ≤ xs.length ∧ Same H1 H' ∧ ∃ acc, H' D = some (.lst acc) ∧ DpAll K H' acc (ys.take i), ⟨xs.length, by simp, Nat.zero_le _, Same.new hD, [], upd_same, by rw [List.take_zero]; exact .nil⟩, ?_⟩
    rintro i m H' ⟨rfl, hi, s2, acc, hA, dA⟩
    by_cases hlt : i < xs.length
    · refine .inr ⟨W.go i H' s2 hlt, fun H3 => i + 1 ≤ xs.length ∧ Same H1 H3 ∧ ∃ acc, H3 D = some (.lst acc) ∧ DpAll K H3 acc (ys.take (i + 1)), fun H3 ⟨a, b, c⟩ => ⟨xs.length - (i + 1), by omega, rfl, a, b, c⟩, fun x H3 y => ?_⟩
      obtain ⟨s3, _, dx, h6, h7⟩ := W.yld i H' x H3 s2 y hlt
      obtain ⟨ρ1, z, h8, h9, h10⟩ := h5 i dx h6
      have e3 : EnvD K H3 (L2.wipe σ vs) (wipeD ρ vs) := (((hen.same s1).same s2).same s3).wipe _
      refine dg.run x dx _ H3 _ ρ1 _ e3 h7 h8 fun σ2 he2 hw => ⟨?_, ?_⟩
      · rw [hw _ hjs, wipe_wipe]
      · show ∃ ρ d, _
        refine ⟨ρ1, z, he2, h9, fun v H4 s4 d4 => ?_⟩
        have hA4 : H4 D = some (.lst acc) := s4 _ _ (s3 _ _ hA)
        have dA4 : DpAll K H4 acc (ys.take i) := dA.same (s3.trans s4)
        refine ⟨acc, hA4, ?_, hlt, ((s2.trans s3).trans s4).mut hD, acc ++ [v], upd_same, ?_⟩
        · rw [dA4.length, List.length_take]
          exact Nat.lt_of_lt_of_le (Nat.lt_of_le_of_lt (Nat.min_le_left _ _) hlt) (zBig_le hz)
        · have ns : NoSeq (H4 D) := by rw [hA4]; exact noSeq_lst
          have e5 : ys.take (i + 1) = ys.take i ++ [z] := by rw [List.take_add_one, h10]; rfl
          rw [e5]
          exact (DpAll.upd ns dA4 (noLAll_take i hnl)).append (.cons (Dp.upd ns d4 (noLAll_get hnl h10)) .nil)
    · have e : i = xs.length := by omega
      subst e
      refine .inl ⟨W.stop H' s2, q _ H' (s1.trans s2) ?_⟩
      rw [h4, List.take_length] at dA
      exact .lst (SqL.of hA) dA
  · cases h2
/-- y = [elt for tg in iter] -/
theorem s_setLc {i : Nat} {y : Str} {py : Pos} {elt iter : Expr} {scope : Scope} {own : List (Str × Nat)} {spos : Pos} {gt : TG} {js : List Nat} {set : PyData → DE → Option DE} {fi : DE → Option (List PyData)} {fe : DE → Option PyData} (hN : X.N.Nodup) (hy : X.N[i]? = some y) (hyl : X.env.scope.names.lookup y = some .local)
    (hsw : swapsWith (.ListComp elt [⟨tg, iter, [], 0⟩] scope pos) (some (.Name y py)) spos.line X.env = pure true) (hi : PI X tg iter (iD X.K fi)) (ok : BlkOk X.N X.env.scope scope own) (dg : DG X.K gt js set) (hjs : ∀ j ∈ js, j ∈ own.map (·.2))
    (hg : ∀ (s : Shared) (H : Hp) (C : Addr) (cl : List (Str × Addr)) (fp : List Addr), PG (X.blk s H scope (compEnvC scope cl C X.env) fp) tg gt)
    (he : ∀ (s : Shared) (H : Hp) (C : Addr) (cl : List (Str × Addr)) (fp : List Addr), PE (X.blk s H scope (compEnvC scope cl C X.env) fp) elt (tD X.K fe)) (hc : X.calm = true := by rfl) (hs : ∀ x, foldedSetIterable iter X.env x = pure x := by intro _; rfl) :
    PS X (.Assign [.Name y py] (.ListComp elt [⟨tg, iter, [], 0⟩] scope pos) spos) (tAsg (tD X.K (fLc fi set fe (own.map (·.2)))) (gName i)) :=
  PS.imp (ps_setLc hc hN hy hyl hsw hi ok hg (fun _ _ _ _ _ => pts_nil) he hs) fun D σ H h => lc_read dg hjs h
end
end L2
namespace Pm
open PySem PySem.Spec PyProof.Rows L2
/-- commands -/
inductive Cm where
  | well (w : Wl)
  | infl (a b : Int)
  | lvls (a b : Int)
  | beg (n : Option Int) (lv : Int)
  | beat (i : Int)
def numT : Option Int → Str
  | none => "endless"
  | some k => dg k
def wordM : Cm → Str
  | .well _ => "well"
  | .infl _ _ => "inflows"
  | .lvls _ _ => "levels"
  | .beg _ _ => "begin"
  | .beat _ => "beat"
def restM : Cm → List Str
  | .well w => (wNums w).map dg
  | .infl a b => [dg a, dg b]
  | .lvls a b => [dg a, dg b]
  | .beg n lv => [numT n, dg lv]
  | .beat i => [dg i]
def lineM (cm : Cm) : Str := Txt.join " " (wordM cm :: restM cm)
def fig (i : Int) : Prop := 0 ≤ i ∧ i ≤ 9
def PreD (D : DkS) : Cm → Prop
  | .well w => WOk w ∧ ∀ i ∈ wNums w, fig i
  | .infl a b => ∃ c, D.cl = some c ∧ COk (putC c 1 a b) ∧ fig a ∧ fig b
  | .lvls a b => ∃ c, D.cl = some c ∧ COk (putC c 2 a b) ∧ fig a ∧ fig b
  | .beg n lv => ∃ c, D.cl = some c ∧ WOk c.w ∧ (∀ k, n = some k → fig k) ∧ 0 ≤ lv ∧ lv ≤ c.w.top ∧ lv ≤ 9
  | .beat i => ∃ c s, D.cl = some c ∧ D.st = some s ∧ BeatOk c s i
def stepD (D : DkS) : Cm → DkS × Str
  | .well w => (⟨some ⟨w, 0, 0, 0, w.top⟩, none⟩, sDone)
  | .infl a b => (⟨D.cl.map fun c => putC c 1 a b, D.st⟩, sDone)
  | .lvls a b => (⟨D.cl.map fun c => putC c 2 a b, D.st⟩, sDone)
  | .beg n lv => (⟨D.cl, D.cl.map fun c => begS c.w n lv⟩, sDone)
  | .beat i => (match D.cl, D.st with
    | some c, some s => beatD D c s i
    | _, _ => (D, ""))
section
variable {P : Program} {w : World} {K : PySem.W.Frag} {mg : Str → Option Value} {base : Heap} {C : Addr}
theorem dg_end {i : Int} (h : fig i) : PyData.eqv (.str (dg i)) (.str "endless") = false := by
  refine fig_cases (Q := fun i => PyData.eqv (.str (dg i)) (.str "endless") = false) ?_ ?_ ?_ ?_ ?_ ?_ ?_ ?_ ?_ ?_ h.1 h.2 <;> decide +kernel
theorem end_end : PyData.eqv (.str "endless") (.str "endless") = true := by decide +kernel
theorem end_shaped : SeqAt.shaped (.str "endless") = true := by decide +kernel
theorem in3 : gIn (.str "begin") (.tuple [.str "verdict", .str "swing", .str "begin"]) = some (.bool true) ∧ gIn (.str "inflows") (.tuple [.str "verdict", .str "swing", .str "begin"]) = some (.bool false) ∧ gIn (.str "levels") (.tuple [.str "verdict", .str "swing", .str "begin"]) = some (.bool false) ∧ gIn (.str "beat") (.tuple [.str "verdict", .str "swing", .str "begin"]) = some (.bool false) := by
  have hs : SeqAt.shaped (.tuple [.str "verdict", .str "swing", .str "begin"]) = true := by decide +kernel
  refine ⟨?_, ?_, ?_, ?_⟩ <;> · rw [gIn_tup, if_pos ⟨by decide +kernel, hs⟩]; exact congrArg (fun b => some (PyData.bool b)) (by decide +kernel)
theorem in2 : gIn (.str "inflows") (.tuple [.str "inflows", .str "levels"]) = some (.bool true) ∧ gIn (.str "levels") (.tuple [.str "inflows", .str "levels"]) = some (.bool true) ∧ gIn (.str "beat") (.tuple [.str "inflows", .str "levels"]) = some (.bool false) := by
  have hs : SeqAt.shaped (.tuple [.str "inflows", .str "levels"]) = true := by decide +kernel
  refine ⟨?_, ?_, ?_⟩ <;> · rw [gIn_tup, if_pos ⟨by decide +kernel, hs⟩]; exact congrArg (fun b => some (PyData.bool b)) (by decide +kernel)
theorem ew1 : PyData.eqv (.str "inflows") (.str "inflows") = true ∧ PyData.eqv (.str "levels") (.str "inflows") = false ∧ PyData.eqv (.str "beat") (.str "beat") = true ∧ SeqAt.shaped (.str "inflows") = true ∧ SeqAt.shaped (.str "levels") = true ∧ SeqAt.shaped (.str "beat") = true := ⟨by decide +kernel, by decide +kernel, by decide +kernel, by decide +kernel, by decide +kernel, by decide +kernel⟩
/-- the list of the numbers -/
theorem nums_read {l : List Int} (h : ∀ i ∈ l, fig i) {j : Nat} {ρ : DE} (hj : j < ρ.length) (hl : l.length ≤ 9) : ((some ((l.map dg).map PyData.str)).bind fun xs => if xs.length ≤ zBig then (lcRun (setN j) (fCall g_integer_of (fCons (fVar j) fNil)) ρ xs).bind fun ys => if noLAll ys = true then some (PyData.list ys) else none else none) = some (.list (l.map .int)) := by
  have c4 : ((l.map dg).map PyData.str).length ≤ zBig := by simp; omega
  rw [Option.bind_some, if_pos c4, List.map_map]
  rw [lcRun_map (en := PyData.str ∘ dg) (g := fun i => .int i) fun i hi => ⟨_, rfl, ?_⟩]
  · have e3 : noLAll (l.map fun i => PyData.int i) = true := noL_map (fun _ => rfl) _
    rw [Option.bind_some, if_pos e3]
  · obtain ⟨a, b⟩ := h i hi
    show ((fVar j (ρ.set j (some (.str (dg i))))).bind fun x => (some []).map fun xs => x :: xs).bind g_integer_of = _
    have : fVar j (ρ.set j (some (.str (dg i)))) = some (.str (dg i)) := by
      unfold fVar
      rw [List.getElem?_set_self hj]
      rfl
    rw [this]
    exact g_integer_of_eq a b
def spWW (C : Addr) (K : PySem.W.Frag) : Sp := fun vs H Q _ => ∃ (p : Addr) (vr : V) (D : DkS) (cm : Cm), vs = [.ref p, .str (wordM cm), vr] ∧ DkAt K C H p D ∧ (∀ w, cm ≠ .well w) ∧ PreD D cm ∧ Dp K H vr (.list ((restM cm).map .str)) ∧
  ∀ H', DkAt K C H' p (stepD D cm).1 → Kp [p] H H' → Q (.str (stepD D cm).2) H'
theorem sc_d_with_words : FnScope ["self", "word", "rest", "numbers", "number", "part"] ["self", "word", "rest"] (defScope (inClass (top 79) 9)) := ⟨rfl, rfl, rfl, by decide +kernel, rfl, by decide +kernel, by decide +kernel⟩
theorem ok_with_words {f aCo aCh aBt : Addr} {fd fdC fdH fdB : FuncData} (F : Fun K "with_words" "Desk.with_words" (inClass (top 79) 9) f fd) (T : Tx mg) (Z : TDk K mg C) (D_integer_of : FnD P w K mg base 1 "integer_of" g_integer_of)
    (mC : Meth K C "counted" aCo) (GC : FnOk P w K mg base CX0 5 aCo fdC ["self", "word", "number", "rest"] (spBegin C K)) (bC : Binds K fdC ["self", "word", "number", "rest"] [])
    (mH : Meth K C "change" aCh) (GH : FnOk P w K mg base CX0 4 aCh fdH ["self", "place", "numbers"] (spChange C K)) (bH : Binds K fdH ["self", "place", "numbers"] [])
    (mB : Meth K C "beat" aBt) (GB : FnOk P w K mg base CX0 6 aBt fdB ["self", "inflow"] (spBeat C K)) (bB : Binds K fdB ["self", "inflow"] []) : FnOk P w K mg base CX0 7 f fd ["self", "word", "rest"] (spWW C K) := by
  refine F.ok sc_d_with_words (fun vs H Q E h => ?_) (fun cdv A outer s H vs Q E hr h => ?_)
  · obtain ⟨p, vr, D, cm, rfl, _⟩ := h
    rfl
  · obtain ⟨p, vr, D, cm, rfl, hD, hnw, hpre, dr, q⟩ := h
    refine ⟨_, pss_cons (ps_if (t_cmp (op_inT hr.u66) (ov_in) (pd 1) (d_tup (da_cons d_str (da_cons d_str (da_cons d_str da_nil)))) (by rfl)) (pss_cons (ps_set (i := 4) sc_d_with_words.nd rfl (Or.inl rfl) (d_if (t_cmp (op_eqD hr.units) (ov_eq) (d_ix (pd 2) d_int) (d_gstr T.c_ENDLESS) (nomark _)) d_non (d_call D_integer_of (hr.mono (by decide)) (da_cons (d_ix (pd 2) d_int) da_nil))))
        (pss_one (ps_ret (pe_ifExp (PW.pt (w_or (t_cmp (op_eqD hr.units) (ov_eq) (d_ix (pd 2) d_int) (d_gstr T.c_ENDLESS) (nomark _)) (w_or1 (t_cmp (op_notN) (ov_isnot) (pd 4) d_non (nomark _))))) (pe_meth (pv 0) Z.cl mC GC (hr.mono (by decide)) bC .nil pass0 (pa_cons (pv 1) (pa_cons (pv 4) (pa_cons (d_slice (pd 2) (do_some d_int) do_none) pa_nil)))) (d_gstr T.c_NO))))) pss_nil)
      (pss_cons (s_setLc (i := 3) (own := [("part", 5)]) sc_d_with_words.nd rfl rfl (sw_true rfl rfl rfl (by decide +kernel)) (i_list (pd 2)) (blkOk_by (N := ["self", "word", "rest", "numbers", "number", "part"] ) (sc := defScope (inClass (top 79) 9)) (by decide +kernel)) (dg_name 5) (by decide) (fun _ _ _ _ _ => pg_name (i := 5) sc_d_with_words.nd rfl (Or.inl rfl)) (fun _ _ _ _ _ => (d_call D_integer_of (hr.mono (by decide)) (da_cons (pd 5) da_nil))))
      (pss_cons (ps_if (PW.pt (w_and (t_cmp (op_inT hr.u66) (ov_in) (pd 1) (d_tup (da_cons d_str (da_cons d_str da_nil))) (by rfl)) (w_and1 (t_cmp (op_eqD hr.units) (ov_eq) (d_callB cv_len call_lenP T.b_len (da_cons (pd 2) da_nil) (hv := bt_len)) d_int (nomark _))))) (pss_one (ps_ret (pe_meth (pv 0) Z.cl mH GH (hr.mono (by decide)) bH .nil pass0 (pa_cons (d_if (t_cmp (op_eqD hr.units) (ov_eq) (pd 1) d_str (nomark _)) d_int d_int) (pa_cons (pv 3) pa_nil))))) pss_nil)
      (pss_one (ps_ret (pe_ifExp (PW.pt (w_and (t_cmp (op_eqD hr.units) (ov_eq) (pd 1) d_str (nomark _)) (w_and1 (t_cmp (op_eqD hr.units) (ov_eq) (d_callB cv_len call_lenP T.b_len (da_cons (pd 2) da_nil) (hv := bt_len)) d_int (nomark _))))) (pe_meth (pv 0) Z.cl mB GB (hr.mono (by decide)) bB .nil pass0 (pa_cons (d_ix (pd 3) d_int) pa_nil)) (d_gstr T.c_NO)))))), ?_⟩
    have env0 : ∀ {H'}, Same H H' → EnvD K H' (L2.start ["self", "word", "rest", "numbers", "number", "part"] [.ref p, .str (wordM cm), vr]) [none, some (.str (wordM cm)), some (.list ((restM cm).map .str)), none, none, none] := fun e => env_no (env_c (.str _) (env_c (dr.same e) (env_no (env_no (env_no env_nil)))))
    have e22 : PyData.eqv (.int 2) (.int 2) = true := by decide +kernel
    have e12 : PyData.eqv (.int 1) (.int 1) = true := by decide +kernel
    obtain ⟨f1, f2', f3, f4, f5, f6⟩ := ew1
    cases cm with
    | well w => exact absurd rfl (hnw w)
    | beg n lv =>
      obtain ⟨c, hcl, hw, hn, l1, l2, l3⟩ := hpre
      refine ⟨_, true, env0 (Same.refl _), ?_, fun H1 s1 => ?_⟩
      · have e1 := in3.1
        simp -implicitDefEqProofs only [startD, sSeq, sSet, sRet, sIf, sSkip, sNever, sAsgG, sPar, fTup, f2, fSl, fPart, fNoPart, fVar, fC, fCons, fNil, fIf, fT, fCall, fIsa, fOrT, fAndT, fNotT, fAnd, fLc, fRng, fZip, fItemsT, fItemsL, List.map_cons, List.map_nil, List.length_cons, List.length_nil, List.replicate, List.cons_append, List.nil_append, List.getElem?_cons_zero, List.getElem?_cons_succ, List.set_cons_zero, List.set_cons_succ, Option.join_some, Option.join_none, Option.bind_some, Option.map_some, thenR_nx, thenR_rt, asI_int, asB_bool, gAdd_int, gSub_int, gMul_int, gCmpI_int, zBig, Nat.reduceAdd, Nat.reduceLeDiff, Nat.reduceSub, ite_true, ite_false, Bool.false_eq_true, decide_true, decide_false, gIs_none, decide_eq_true_eq, isD_tuple, isD_str, isD_int, isD_bool, isTuple_tuple, Bool.not_true, Bool.not_false, asTup_tup, asLst_lst, asRng_int, asZip_tup, wipeD, gNe, gEq, shaped_int, shaped_bool, shaped_none, and_self, condB_bool, wordM, e1]
      refine iteT ?_
      have ix0 : gIx (.list ((restM (.beg n lv)).map .str)) (.int 0) = some (.str (numT n)) := rfl
      have hnum : NumOk n := fun k e => by have := hn k e; exact ⟨this.1, by have := this.2; omega⟩
      refine ⟨_, encO n, env0 s1, ?_, fun v2 H2 s2 d2 => ?_⟩
      · cases n with
        | none => simp -implicitDefEqProofs only [startD, sSeq, sSet, sRet, sIf, sSkip, sNever, sAsgG, sPar, fTup, f2, fSl, fPart, fNoPart, fVar, fC, fCons, fNil, fIf, fT, fCall, fIsa, fOrT, fAndT, fNotT, fAnd, fLc, fRng, fZip, fItemsT, fItemsL, List.map_cons, List.map_nil, List.length_cons, List.length_nil, List.replicate, List.cons_append, List.nil_append, List.getElem?_cons_zero, List.getElem?_cons_succ, List.set_cons_zero, List.set_cons_succ, Option.join_some, Option.join_none, Option.bind_some, Option.map_some, thenR_nx, thenR_rt, asI_int, asB_bool, gAdd_int, gSub_int, gMul_int, gCmpI_int, zBig, Nat.reduceAdd, Nat.reduceLeDiff, Nat.reduceSub, ite_true, ite_false, Bool.false_eq_true, decide_true, decide_false, gIs_none, decide_eq_true_eq, isD_tuple, isD_str, isD_int, isD_bool, isTuple_tuple, Bool.not_true, Bool.not_false, asTup_tup, asLst_lst, asRng_int, asZip_tup, wipeD, gNe, gEq, shaped_int, shaped_bool, shaped_none, and_self, condB_bool, ix0, numT, end_end, end_shaped, encO]
        | some k =>
          have hk := hn k rfl
          simp -implicitDefEqProofs only [startD, sSeq, sSet, sRet, sIf, sSkip, sNever, sAsgG, sPar, fTup, f2, fSl, fPart, fNoPart, fVar, fC, fCons, fNil, fIf, fT, fCall, fIsa, fOrT, fAndT, fNotT, fAnd, fLc, fRng, fZip, fItemsT, fItemsL, List.map_cons, List.map_nil, List.length_cons, List.length_nil, List.replicate, List.cons_append, List.nil_append, List.getElem?_cons_zero, List.getElem?_cons_succ, List.set_cons_zero, List.set_cons_succ, Option.join_some, Option.join_none, Option.bind_some, Option.map_some, thenR_nx, thenR_rt, asI_int, asB_bool, gAdd_int, gSub_int, gMul_int, gCmpI_int, zBig, Nat.reduceAdd, Nat.reduceLeDiff, Nat.reduceSub, ite_true, ite_false, Bool.false_eq_true, decide_true, decide_false, gIs_none, decide_eq_true_eq, isD_tuple, isD_str, isD_int, isD_bool, isTuple_tuple, Bool.not_true, Bool.not_false, asTup_tup, asLst_lst, asRng_int, asZip_tup, wipeD, gNe, gEq, shaped_int, shaped_bool, shaped_none, and_self, condB_bool, ix0, numT, dg_end hk, end_shaped, dg_shaped hk.1 hk.2, encO, g_integer_of_eq hk.1 hk.2]
      have env2 : ∀ {H'}, Same H2 H' → EnvD K H' ((L2.start ["self", "word", "rest", "numbers", "number", "part"] [.ref p, .str (wordM (.beg n lv)), vr]).set 4 (some v2)) ([none, some (.str (wordM (.beg n lv))), some (.list ((restM (.beg n lv)).map .str)), none, some (encO n), none]) := fun e => env_no (env_c (.str _) (env_c (((dr.same s1).same s2).same e) (env_no (env_c (d2.same e) (env_no env_nil)))))
      refine ⟨_, true, env2 (Same.refl _), ?_, fun H3 s3 => ?_⟩
      · cases n with
        | none => simp -implicitDefEqProofs only [startD, sSeq, sSet, sRet, sIf, sSkip, sNever, sAsgG, sPar, fTup, f2, fSl, fPart, fNoPart, fVar, fC, fCons, fNil, fIf, fT, fCall, fIsa, fOrT, fAndT, fNotT, fAnd, fLc, fRng, fZip, fItemsT, fItemsL, List.map_cons, List.map_nil, List.length_cons, List.length_nil, List.replicate, List.cons_append, List.nil_append, List.getElem?_cons_zero, List.getElem?_cons_succ, List.set_cons_zero, List.set_cons_succ, Option.join_some, Option.join_none, Option.bind_some, Option.map_some, thenR_nx, thenR_rt, asI_int, asB_bool, gAdd_int, gSub_int, gMul_int, gCmpI_int, zBig, Nat.reduceAdd, Nat.reduceLeDiff, Nat.reduceSub, ite_true, ite_false, Bool.false_eq_true, decide_true, decide_false, gIs_none, decide_eq_true_eq, isD_tuple, isD_str, isD_int, isD_bool, isTuple_tuple, Bool.not_true, Bool.not_false, asTup_tup, asLst_lst, asRng_int, asZip_tup, wipeD, gNe, gEq, shaped_int, shaped_bool, shaped_none, and_self, condB_bool, ix0, numT, end_end, end_shaped]
        | some k =>
          have hk := hn k rfl
          simp -implicitDefEqProofs only [startD, sSeq, sSet, sRet, sIf, sSkip, sNever, sAsgG, sPar, fTup, f2, fSl, fPart, fNoPart, fVar, fC, fCons, fNil, fIf, fT, fCall, fIsa, fOrT, fAndT, fNotT, fAnd, fLc, fRng, fZip, fItemsT, fItemsL, List.map_cons, List.map_nil, List.length_cons, List.length_nil, List.replicate, List.cons_append, List.nil_append, List.getElem?_cons_zero, List.getElem?_cons_succ, List.set_cons_zero, List.set_cons_succ, Option.join_some, Option.join_none, Option.bind_some, Option.map_some, thenR_nx, thenR_rt, asI_int, asB_bool, gAdd_int, gSub_int, gMul_int, gCmpI_int, zBig, Nat.reduceAdd, Nat.reduceLeDiff, Nat.reduceSub, ite_true, ite_false, Bool.false_eq_true, decide_true, decide_false, gIs_none, decide_eq_true_eq, isD_tuple, isD_str, isD_int, isD_bool, isTuple_tuple, Bool.not_true, Bool.not_false, asTup_tup, asLst_lst, asRng_int, asZip_tup, wipeD, gNe, gEq, shaped_int, shaped_bool, shaped_none, and_self, condB_bool, ix0, numT, dg_end hk, end_shaped, dg_shaped hk.1 hk.2, encO, gIsNot_none, isNoneD_int]
      refine iteT ?_
      have s13 := (s1.trans s2).trans s3
      have D3 := hD.same s13
      obtain ⟨dx, vc, vs, h1, _⟩ := D3.ob
      refine ⟨_, rfl, p, dx, _, rfl, h1, fldD_no _ _ (by decide +kernel) (by decide +kernel), _, rfl, _, rfl, _, .list [.str (dg lv)], env2 s3, ?_, fun v4 H4 s4 d4 => ?_⟩
      · have e1 : gSl (.list ((restM (.beg n lv)).map .str)) (some 1) none = some (.list [.str (dg lv)]) := by
          rw [gSl_lst, show (1 : Int) = ((1 : Nat) : Int) from rfl, cutP_from]
          rfl
        simp -implicitDefEqProofs only [startD, sSeq, sSet, sRet, sIf, sSkip, sNever, sAsgG, sPar, fTup, f2, fSl, fPart, fNoPart, fVar, fC, fCons, fNil, fIf, fT, fCall, fIsa, fOrT, fAndT, fNotT, fAnd, fLc, fRng, fZip, fItemsT, fItemsL, List.map_cons, List.map_nil, List.length_cons, List.length_nil, List.replicate, List.cons_append, List.nil_append, List.getElem?_cons_zero, List.getElem?_cons_succ, List.set_cons_zero, List.set_cons_succ, Option.join_some, Option.join_none, Option.bind_some, Option.map_some, thenR_nx, thenR_rt, asI_int, asB_bool, gAdd_int, gSub_int, gMul_int, gCmpI_int, zBig, Nat.reduceAdd, Nat.reduceLeDiff, Nat.reduceSub, ite_true, ite_false, Bool.false_eq_true, decide_true, decide_false, gIs_none, decide_eq_true_eq, isD_tuple, isD_str, isD_int, isD_bool, isTuple_tuple, Bool.not_true, Bool.not_false, asTup_tup, asLst_lst, asRng_int, asZip_tup, wipeD, gNe, gEq, shaped_int, shaped_bool, shaped_none, and_self, condB_bool, e1]
      refine ⟨p, v2, v4, D, c, n, lv, rfl, D3.same s4, hcl, hw, hnum, (d2.same s3).same s4, d4, ⟨l1, l2, l3⟩, fun H5 D5 k5 => ?_⟩
      unfold stepD at q
      rw [hcl] at q
      refine q H5 ?_ ((s13.trans s4).kp.trans k5)
      rw [hcl] at D5
      exact D5
    | infl a b =>
      obtain ⟨c, hcl, hc, ha, hb⟩ := hpre
      refine ⟨_, false, env0 (Same.refl _), ?_, fun H1 s1 => ?_⟩
      · have e1 := in3.2.1
        simp -implicitDefEqProofs only [startD, sSeq, sSet, sRet, sIf, sSkip, sNever, sAsgG, sPar, fTup, f2, fSl, fPart, fNoPart, fVar, fC, fCons, fNil, fIf, fT, fCall, fIsa, fOrT, fAndT, fNotT, fAnd, fLc, fRng, fZip, fItemsT, fItemsL, List.map_cons, List.map_nil, List.length_cons, List.length_nil, List.replicate, List.cons_append, List.nil_append, List.getElem?_cons_zero, List.getElem?_cons_succ, List.set_cons_zero, List.set_cons_succ, Option.join_some, Option.join_none, Option.bind_some, Option.map_some, thenR_nx, thenR_rt, asI_int, asB_bool, gAdd_int, gSub_int, gMul_int, gCmpI_int, zBig, Nat.reduceAdd, Nat.reduceLeDiff, Nat.reduceSub, ite_true, ite_false, Bool.false_eq_true, decide_true, decide_false, gIs_none, decide_eq_true_eq, isD_tuple, isD_str, isD_int, isD_bool, isTuple_tuple, Bool.not_true, Bool.not_false, asTup_tup, asLst_lst, asRng_int, asZip_tup, wipeD, gNe, gEq, shaped_int, shaped_bool, shaped_none, and_self, condB_bool, wordM, e1]
      refine iteF ?_
      refine ⟨_, .list [.int a, .int b], env0 s1, ?_, fun v2 H2 s2 d2 => ?_⟩
      · have e1 := nums_read (l := [a, b]) (fun i hi => by simp at hi; rcases hi with rfl | rfl <;> assumption) (j := 5) (ρ := [none, some (.str (wordM (.infl a b))), some (.list ((restM (.infl a b)).map .str)), none, none, none]) (by show 5 < 6; decide) (by first | (show 2 ≤ 9; decide) | (show 1 ≤ 9; decide))
        exact e1
      have s12 := s1.trans s2
      have env2 : ∀ {H'}, Same H2 H' → EnvD K H' ((L2.start ["self", "word", "rest", "numbers", "number", "part"] [.ref p, .str (wordM (.infl a b)), vr]).set 3 (some v2)) ([none, some (.str (wordM (.infl a b))), some (.list ((restM (.infl a b)).map .str)), some (.list [.int a, .int b]), none, none]) := fun e => env_no (env_c (.str _) (env_c ((dr.same s12).same e) (env_c (d2.same e) (env_no (env_no env_nil)))))
      refine ⟨_, true, env2 (Same.refl _), ?_, fun H3 s3 => ?_⟩
      · have e1 := in2.1
        have e2 : gLen [.list ((restM (.infl a b)).map .str)] = some (.int 2) := rfl
        simp -implicitDefEqProofs only [startD, sSeq, sSet, sRet, sIf, sSkip, sNever, sAsgG, sPar, fTup, f2, fSl, fPart, fNoPart, fVar, fC, fCons, fNil, fIf, fT, fCall, fIsa, fOrT, fAndT, fNotT, fAnd, fLc, fRng, fZip, fItemsT, fItemsL, List.map_cons, List.map_nil, List.length_cons, List.length_nil, List.replicate, List.cons_append, List.nil_append, List.getElem?_cons_zero, List.getElem?_cons_succ, List.set_cons_zero, List.set_cons_succ, Option.join_some, Option.join_none, Option.bind_some, Option.map_some, thenR_nx, thenR_rt, asI_int, asB_bool, gAdd_int, gSub_int, gMul_int, gCmpI_int, zBig, Nat.reduceAdd, Nat.reduceLeDiff, Nat.reduceSub, ite_true, ite_false, Bool.false_eq_true, decide_true, decide_false, gIs_none, decide_eq_true_eq, isD_tuple, isD_str, isD_int, isD_bool, isTuple_tuple, Bool.not_true, Bool.not_false, asTup_tup, asLst_lst, asRng_int, asZip_tup, wipeD, gNe, gEq, shaped_int, shaped_bool, shaped_none, and_self, condB_bool, wordM, e1, e2, e22]
      refine iteT ?_
      have D3 := hD.same (s12.trans s3)
      obtain ⟨dx, vc, vs, h1, _⟩ := D3.ob
      refine ⟨_, rfl, p, dx, _, rfl, h1, fldD_no _ _ (by decide +kernel) (by decide +kernel), _, .int 1, env2 s3, ?_, fun v4 H4 s4 d4 => ?_⟩
      · simp -implicitDefEqProofs only [startD, sSeq, sSet, sRet, sIf, sSkip, sNever, sAsgG, sPar, fTup, f2, fSl, fPart, fNoPart, fVar, fC, fCons, fNil, fIf, fT, fCall, fIsa, fOrT, fAndT, fNotT, fAnd, fLc, fRng, fZip, fItemsT, fItemsL, List.map_cons, List.map_nil, List.length_cons, List.length_nil, List.replicate, List.cons_append, List.nil_append, List.getElem?_cons_zero, List.getElem?_cons_succ, List.set_cons_zero, List.set_cons_succ, Option.join_some, Option.join_none, Option.bind_some, Option.map_some, thenR_nx, thenR_rt, asI_int, asB_bool, gAdd_int, gSub_int, gMul_int, gCmpI_int, zBig, Nat.reduceAdd, Nat.reduceLeDiff, Nat.reduceSub, ite_true, ite_false, Bool.false_eq_true, decide_true, decide_false, gIs_none, decide_eq_true_eq, isD_tuple, isD_str, isD_int, isD_bool, isTuple_tuple, Bool.not_true, Bool.not_false, asTup_tup, asLst_lst, asRng_int, asZip_tup, wipeD, gNe, gEq, shaped_int, shaped_bool, shaped_none, and_self, condB_bool, wordM, f1, f4]
      obtain rfl := dp_int d4
      refine ⟨_, rfl, p, v2, D, c, 1, a, b, rfl, D3.same s4, hcl, .inl rfl, hc, (d2.same s3).same s4, fun H5 D5 k5 => ?_⟩
      unfold stepD at q
      rw [hcl] at q
      exact q H5 D5 (((s12.trans s3).trans s4).kp.trans k5)
    | lvls a b =>
      obtain ⟨c, hcl, hc, ha, hb⟩ := hpre
      refine ⟨_, false, env0 (Same.refl _), ?_, fun H1 s1 => ?_⟩
      · have e1 := in3.2.2.1
        simp -implicitDefEqProofs only [startD, sSeq, sSet, sRet, sIf, sSkip, sNever, sAsgG, sPar, fTup, f2, fSl, fPart, fNoPart, fVar, fC, fCons, fNil, fIf, fT, fCall, fIsa, fOrT, fAndT, fNotT, fAnd, fLc, fRng, fZip, fItemsT, fItemsL, List.map_cons, List.map_nil, List.length_cons, List.length_nil, List.replicate, List.cons_append, List.nil_append, List.getElem?_cons_zero, List.getElem?_cons_succ, List.set_cons_zero, List.set_cons_succ, Option.join_some, Option.join_none, Option.bind_some, Option.map_some, thenR_nx, thenR_rt, asI_int, asB_bool, gAdd_int, gSub_int, gMul_int, gCmpI_int, zBig, Nat.reduceAdd, Nat.reduceLeDiff, Nat.reduceSub, ite_true, ite_false, Bool.false_eq_true, decide_true, decide_false, gIs_none, decide_eq_true_eq, isD_tuple, isD_str, isD_int, isD_bool, isTuple_tuple, Bool.not_true, Bool.not_false, asTup_tup, asLst_lst, asRng_int, asZip_tup, wipeD, gNe, gEq, shaped_int, shaped_bool, shaped_none, and_self, condB_bool, wordM, e1]
      refine iteF ?_
      refine ⟨_, .list [.int a, .int b], env0 s1, ?_, fun v2 H2 s2 d2 => ?_⟩
      · have e1 := nums_read (l := [a, b]) (fun i hi => by simp at hi; rcases hi with rfl | rfl <;> assumption) (j := 5) (ρ := [none, some (.str (wordM (.lvls a b))), some (.list ((restM (.lvls a b)).map .str)), none, none, none]) (by show 5 < 6; decide) (by first | (show 2 ≤ 9; decide) | (show 1 ≤ 9; decide))
        exact e1
      have s12 := s1.trans s2
      have env2 : ∀ {H'}, Same H2 H' → EnvD K H' ((L2.start ["self", "word", "rest", "numbers", "number", "part"] [.ref p, .str (wordM (.lvls a b)), vr]).set 3 (some v2)) ([none, some (.str (wordM (.lvls a b))), some (.list ((restM (.lvls a b)).map .str)), some (.list [.int a, .int b]), none, none]) := fun e => env_no (env_c (.str _) (env_c ((dr.same s12).same e) (env_c (d2.same e) (env_no (env_no env_nil)))))
      refine ⟨_, true, env2 (Same.refl _), ?_, fun H3 s3 => ?_⟩
      · have e1 := in2.2.1
        have e2 : gLen [.list ((restM (.lvls a b)).map .str)] = some (.int 2) := rfl
        simp -implicitDefEqProofs only [startD, sSeq, sSet, sRet, sIf, sSkip, sNever, sAsgG, sPar, fTup, f2, fSl, fPart, fNoPart, fVar, fC, fCons, fNil, fIf, fT, fCall, fIsa, fOrT, fAndT, fNotT, fAnd, fLc, fRng, fZip, fItemsT, fItemsL, List.map_cons, List.map_nil, List.length_cons, List.length_nil, List.replicate, List.cons_append, List.nil_append, List.getElem?_cons_zero, List.getElem?_cons_succ, List.set_cons_zero, List.set_cons_succ, Option.join_some, Option.join_none, Option.bind_some, Option.map_some, thenR_nx, thenR_rt, asI_int, asB_bool, gAdd_int, gSub_int, gMul_int, gCmpI_int, zBig, Nat.reduceAdd, Nat.reduceLeDiff, Nat.reduceSub, ite_true, ite_false, Bool.false_eq_true, decide_true, decide_false, gIs_none, decide_eq_true_eq, isD_tuple, isD_str, isD_int, isD_bool, isTuple_tuple, Bool.not_true, Bool.not_false, asTup_tup, asLst_lst, asRng_int, asZip_tup, wipeD, gNe, gEq, shaped_int, shaped_bool, shaped_none, and_self, condB_bool, wordM, e1, e2, e22]
      refine iteT ?_
      have D3 := hD.same (s12.trans s3)
      obtain ⟨dx, vc, vs, h1, _⟩ := D3.ob
      refine ⟨_, rfl, p, dx, _, rfl, h1, fldD_no _ _ (by decide +kernel) (by decide +kernel), _, .int 2, env2 s3, ?_, fun v4 H4 s4 d4 => ?_⟩
      · simp -implicitDefEqProofs only [startD, sSeq, sSet, sRet, sIf, sSkip, sNever, sAsgG, sPar, fTup, f2, fSl, fPart, fNoPart, fVar, fC, fCons, fNil, fIf, fT, fCall, fIsa, fOrT, fAndT, fNotT, fAnd, fLc, fRng, fZip, fItemsT, fItemsL, List.map_cons, List.map_nil, List.length_cons, List.length_nil, List.replicate, List.cons_append, List.nil_append, List.getElem?_cons_zero, List.getElem?_cons_succ, List.set_cons_zero, List.set_cons_succ, Option.join_some, Option.join_none, Option.bind_some, Option.map_some, thenR_nx, thenR_rt, asI_int, asB_bool, gAdd_int, gSub_int, gMul_int, gCmpI_int, zBig, Nat.reduceAdd, Nat.reduceLeDiff, Nat.reduceSub, ite_true, ite_false, Bool.false_eq_true, decide_true, decide_false, gIs_none, decide_eq_true_eq, isD_tuple, isD_str, isD_int, isD_bool, isTuple_tuple, Bool.not_true, Bool.not_false, asTup_tup, asLst_lst, asRng_int, asZip_tup, wipeD, gNe, gEq, shaped_int, shaped_bool, shaped_none, and_self, condB_bool, wordM, f2', f4, f5]
      obtain rfl := dp_int d4
      refine ⟨_, rfl, p, v2, D, c, 2, a, b, rfl, D3.same s4, hcl, .inr rfl, hc, (d2.same s3).same s4, fun H5 D5 k5 => ?_⟩
      unfold stepD at q
      rw [hcl] at q
      exact q H5 D5 (((s12.trans s3).trans s4).kp.trans k5)
    | beat i =>
      obtain ⟨c, st, hcl, hst, hB⟩ := hpre
      refine ⟨_, false, env0 (Same.refl _), ?_, fun H1 s1 => ?_⟩
      · have e1 := in3.2.2.2
        simp -implicitDefEqProofs only [startD, sSeq, sSet, sRet, sIf, sSkip, sNever, sAsgG, sPar, fTup, f2, fSl, fPart, fNoPart, fVar, fC, fCons, fNil, fIf, fT, fCall, fIsa, fOrT, fAndT, fNotT, fAnd, fLc, fRng, fZip, fItemsT, fItemsL, List.map_cons, List.map_nil, List.length_cons, List.length_nil, List.replicate, List.cons_append, List.nil_append, List.getElem?_cons_zero, List.getElem?_cons_succ, List.set_cons_zero, List.set_cons_succ, Option.join_some, Option.join_none, Option.bind_some, Option.map_some, thenR_nx, thenR_rt, asI_int, asB_bool, gAdd_int, gSub_int, gMul_int, gCmpI_int, zBig, Nat.reduceAdd, Nat.reduceLeDiff, Nat.reduceSub, ite_true, ite_false, Bool.false_eq_true, decide_true, decide_false, gIs_none, decide_eq_true_eq, isD_tuple, isD_str, isD_int, isD_bool, isTuple_tuple, Bool.not_true, Bool.not_false, asTup_tup, asLst_lst, asRng_int, asZip_tup, wipeD, gNe, gEq, shaped_int, shaped_bool, shaped_none, and_self, condB_bool, wordM, e1]
      refine iteF ?_
      refine ⟨_, .list [.int i], env0 s1, ?_, fun v2 H2 s2 d2 => ?_⟩
      · have e1 := nums_read (l := [i]) (fun k hk => by simp at hk; subst hk; exact hB.ik) (j := 5) (ρ := [none, some (.str (wordM (.beat i))), some (.list ((restM (.beat i)).map .str)), none, none, none]) (by show 5 < 6; decide) (by first | (show 2 ≤ 9; decide) | (show 1 ≤ 9; decide))
        exact e1
      have s12 := s1.trans s2
      have env2 : ∀ {H'}, Same H2 H' → EnvD K H' ((L2.start ["self", "word", "rest", "numbers", "number", "part"] [.ref p, .str (wordM (.beat i)), vr]).set 3 (some v2)) ([none, some (.str (wordM (.beat i))), some (.list ((restM (.beat i)).map .str)), some (.list [.int i]), none, none]) := fun e => env_no (env_c (.str _) (env_c ((dr.same s12).same e) (env_c (d2.same e) (env_no (env_no env_nil)))))
      have e2 : gLen [.list ((restM (.beat i)).map .str)] = some (.int 1) := rfl
      refine ⟨_, false, env2 (Same.refl _), ?_, fun H3 s3 => ?_⟩
      · have e1 := in2.2.2
        simp -implicitDefEqProofs only [startD, sSeq, sSet, sRet, sIf, sSkip, sNever, sAsgG, sPar, fTup, f2, fSl, fPart, fNoPart, fVar, fC, fCons, fNil, fIf, fT, fCall, fIsa, fOrT, fAndT, fNotT, fAnd, fLc, fRng, fZip, fItemsT, fItemsL, List.map_cons, List.map_nil, List.length_cons, List.length_nil, List.replicate, List.cons_append, List.nil_append, List.getElem?_cons_zero, List.getElem?_cons_succ, List.set_cons_zero, List.set_cons_succ, Option.join_some, Option.join_none, Option.bind_some, Option.map_some, thenR_nx, thenR_rt, asI_int, asB_bool, gAdd_int, gSub_int, gMul_int, gCmpI_int, zBig, Nat.reduceAdd, Nat.reduceLeDiff, Nat.reduceSub, ite_true, ite_false, Bool.false_eq_true, decide_true, decide_false, gIs_none, decide_eq_true_eq, isD_tuple, isD_str, isD_int, isD_bool, isTuple_tuple, Bool.not_true, Bool.not_false, asTup_tup, asLst_lst, asRng_int, asZip_tup, wipeD, gNe, gEq, shaped_int, shaped_bool, shaped_none, and_self, condB_bool, wordM, e1]
      refine iteF ?_
      refine ⟨_, true, env2 s3, ?_, fun H4 s4 => ?_⟩
      · simp -implicitDefEqProofs only [startD, sSeq, sSet, sRet, sIf, sSkip, sNever, sAsgG, sPar, fTup, f2, fSl, fPart, fNoPart, fVar, fC, fCons, fNil, fIf, fT, fCall, fIsa, fOrT, fAndT, fNotT, fAnd, fLc, fRng, fZip, fItemsT, fItemsL, List.map_cons, List.map_nil, List.length_cons, List.length_nil, List.replicate, List.cons_append, List.nil_append, List.getElem?_cons_zero, List.getElem?_cons_succ, List.set_cons_zero, List.set_cons_succ, Option.join_some, Option.join_none, Option.bind_some, Option.map_some, thenR_nx, thenR_rt, asI_int, asB_bool, gAdd_int, gSub_int, gMul_int, gCmpI_int, zBig, Nat.reduceAdd, Nat.reduceLeDiff, Nat.reduceSub, ite_true, ite_false, Bool.false_eq_true, decide_true, decide_false, gIs_none, decide_eq_true_eq, isD_tuple, isD_str, isD_int, isD_bool, isTuple_tuple, Bool.not_true, Bool.not_false, asTup_tup, asLst_lst, asRng_int, asZip_tup, wipeD, gNe, gEq, shaped_int, shaped_bool, shaped_none, and_self, condB_bool, wordM, f3, f6, e2, e12]
      refine iteT ?_
      have D4 := hD.same ((s12.trans s3).trans s4)
      obtain ⟨dx, vc, vs, h1, _⟩ := D4.ob
      refine ⟨_, rfl, p, dx, _, rfl, h1, fldD_no _ _ (by decide +kernel) (by decide +kernel), _, .int i, env2 (s3.trans s4), ?_, fun v5 H5 s5 d5 => ?_⟩
      · have e1 : gIx (.list [.int i]) (.int 0) = some (.int i) := rfl
        simp -implicitDefEqProofs only [startD, sSeq, sSet, sRet, sIf, sSkip, sNever, sAsgG, sPar, fTup, f2, fSl, fPart, fNoPart, fVar, fC, fCons, fNil, fIf, fT, fCall, fIsa, fOrT, fAndT, fNotT, fAnd, fLc, fRng, fZip, fItemsT, fItemsL, List.map_cons, List.map_nil, List.length_cons, List.length_nil, List.replicate, List.cons_append, List.nil_append, List.getElem?_cons_zero, List.getElem?_cons_succ, List.set_cons_zero, List.set_cons_succ, Option.join_some, Option.join_none, Option.bind_some, Option.map_some, thenR_nx, thenR_rt, asI_int, asB_bool, gAdd_int, gSub_int, gMul_int, gCmpI_int, zBig, Nat.reduceAdd, Nat.reduceLeDiff, Nat.reduceSub, ite_true, ite_false, Bool.false_eq_true, decide_true, decide_false, gIs_none, decide_eq_true_eq, isD_tuple, isD_str, isD_int, isD_bool, isTuple_tuple, Bool.not_true, Bool.not_false, asTup_tup, asLst_lst, asRng_int, asZip_tup, wipeD, gNe, gEq, shaped_int, shaped_bool, shaped_none, and_self, condB_bool, e1]
      obtain rfl := dp_int d5
      refine ⟨p, D, c, st, i, rfl, D4.same s5, hcl, hst, hB, fun H6 D6 k6 => ?_⟩
      unfold stepD at q
      rw [hcl, hst] at q
      exact q H6 D6 ((((s12.trans s3).trans s4).trans s5).kp.trans k6)
end
end Pm
set_option maxHeartbeats 4000000
/-! DN: Desk.answered, Desk.say -/
namespace Pm
open PySem PySem.Spec PyProof.Rows L2
theorem shaped_of_ok {x : Str} (h : (PyData.str x).canLay0 = true) : SeqAt.shaped (.str x) = true := by simp [SeqAt.shaped, h, PyData.depth]
theorem canLay_strs : ∀ {xs : List Str}, (∀ x ∈ xs, (PyData.str x).canLay0 = true) → PyData.canLayAll0 (xs.map .str) = true
  | [], _ => rfl
  | x :: xs, h => by
    rw [List.map_cons, PyData.canLayAll0, h x List.mem_cons_self, canLay_strs fun y hy => h y (List.mem_cons_of_mem _ hy)]
    rfl
theorem shaped_strs {xs : List Str} (h : ∀ x ∈ xs, (PyData.str x).canLay0 = true) : SeqAt.shaped (.list (xs.map .str)) = true := by
  have h1 := canLay_strs h
  have h2 := depth_map (g := PyData.str) (k := 0) (fun _ => Nat.le_refl _) xs
  simp [SeqAt.shaped, PyData.canLay0, PyData.depth, h1]
  omega
theorem dg_ok {i : Int} (a : 0 ≤ i) (b : i ≤ 9) : (PyData.str (dg i)).canLay0 = true := by
  refine fig_cases (Q := fun i => (PyData.str (dg i)).canLay0 = true) ?_ ?_ ?_ ?_ ?_ ?_ ?_ ?_ ?_ ?_ a b <;> decide +kernel
theorem no_nl {a : Str} (h : 10 ∉ TL.tl a) : (Builtin.Str.occurrences a "\n" 0 a.length 1).isEmpty = true := by
  have h1 := TL.partition_none (y := "\n") (s := 10) (S := []) nl_tl h
  unfold Txt.partition at h1
  cases ho : Builtin.Str.occurrences a "\n" 0 a.length 1 with
  | nil => rfl
  | cons i r =>
    rw [ho] at h1
    simp only [Prod.mk.injEq] at h1
    have h2 := h1.2.1
    exact absurd h2 (by decide +kernel)
theorem word_fine : ∀ x : Str, x = "well" ∨ x = "inflows" ∨ x = "levels" ∨ x = "begin" ∨ x = "beat" ∨ x = "endless" → 32 ∉ TL.tl x ∧ 10 ∉ TL.tl x ∧ x.length ≤ 7 ∧ (PyData.str x).canLay0 = true := by
  intro x hx
  rcases hx with rfl | rfl | rfl | rfl | rfl | rfl <;> exact ⟨by decide +kernel, by decide +kernel, by decide +kernel, by decide +kernel⟩
theorem dg_fine {i : Int} (h : fig i) : 32 ∉ TL.tl (dg i) ∧ 10 ∉ TL.tl (dg i) ∧ (dg i).length ≤ 7 ∧ (PyData.str (dg i)).canLay0 = true := by
  have e := dg_cps h.1 h.2
  have l := dg_len h.1 h.2
  refine ⟨?_, ?_, by omega, dg_ok h.1 h.2⟩
  · show 32 ∉ (dg i).cps.toList
    rw [e]
    simp
    omega
  · show 10 ∉ (dg i).cps.toList
    rw [e]
    simp
    omega
theorem cm_fine {D : DkS} {cm : Cm} (h : PreD D cm) : (∀ x ∈ wordM cm :: restM cm, 32 ∉ TL.tl x ∧ 10 ∉ TL.tl x ∧ x.length ≤ 7 ∧ (PyData.str x).canLay0 = true) ∧ (restM cm).length ≤ 9 ∧ restM cm ≠ [] := by
  cases cm with
  | well w =>
    refine ⟨fun x hx => ?_, by simp [restM, wNums], by simp [restM, wNums]⟩
    rcases List.mem_cons.mp hx with rfl | hx
    · exact word_fine _ (.inl rfl)
    · obtain ⟨i, hi, rfl⟩ := List.mem_map.mp hx
      exact dg_fine (h.2 i hi)
  | infl a b =>
    obtain ⟨c, _, _, ha, hb⟩ := h
    refine ⟨fun x hx => ?_, by simp [restM], by simp [restM]⟩
    rcases List.mem_cons.mp hx with rfl | hx
    · exact word_fine _ (.inr (.inl rfl))
    · simp [restM] at hx
      rcases hx with rfl | rfl
      · exact dg_fine ha
      · exact dg_fine hb
  | lvls a b =>
    obtain ⟨c, _, _, ha, hb⟩ := h
    refine ⟨fun x hx => ?_, by simp [restM], by simp [restM]⟩
    rcases List.mem_cons.mp hx with rfl | hx
    · exact word_fine _ (.inr (.inr (.inl rfl)))
    · simp [restM] at hx
      rcases hx with rfl | rfl
      · exact dg_fine ha
      · exact dg_fine hb
  | beg n lv =>
    obtain ⟨c, _, _, hn, l1, l2, l3⟩ := h
    refine ⟨fun x hx => ?_, by simp [restM], by simp [restM]⟩
    rcases List.mem_cons.mp hx with rfl | hx
    · exact word_fine _ (.inr (.inr (.inr (.inl rfl))))
    · simp [restM] at hx
      rcases hx with rfl | rfl
      · cases n with
        | none => exact word_fine _ (.inr (.inr (.inr (.inr (.inr rfl)))))
        | some k => exact dg_fine (hn k rfl)
      · exact dg_fine ⟨l1, l3⟩
  | beat i =>
    obtain ⟨c, s, _, _, hB⟩ := h
    refine ⟨fun x hx => ?_, by simp [restM], by simp [restM]⟩
    rcases List.mem_cons.mp hx with rfl | hx
    · exact word_fine _ (.inr (.inr (.inr (.inr (.inl rfl)))))
    · simp [restM] at hx
      subst hx
      exact dg_fine hB.ik
theorem split_cm {D : DkS} {cm : Cm} (h : PreD D cm) : Txt.split (lineM cm) " " = wordM cm :: restM cm :=
  TL.split_join (s := 32) (S := []) blank_tl (by decide +kernel) (by simp) fun p hp => ((cm_fine h).1 p hp).1
theorem joinL_no : ∀ {l : List (List Nat)}, (∀ p ∈ l, 10 ∉ p) → 10 ∉ TL.joinL [32] l
  | [], _ => by simp [TL.joinL]
  | [p], h => h p List.mem_cons_self
  | p :: q :: r, h => by
    have ih := joinL_no (l := q :: r) fun z hz => h z (List.mem_cons_of_mem _ hz)
    show 10 ∉ p ++ ([32] ++ TL.joinL [32] (q :: r))
    simp only [List.mem_append, not_or]
    exact ⟨h p List.mem_cons_self, by simp, ih⟩
theorem nl_cm {D : DkS} {cm : Cm} (h : PreD D cm) : 10 ∉ TL.tl (lineM cm) := by
  unfold lineM
  rw [TL.join_eq, TL.tl_join, blank_tl]
  refine joinL_no fun p hp => ?_
  obtain ⟨x, hx, rfl⟩ := List.mem_map.mp hp
  exact ((cm_fine h).1 x hx).2.1
theorem sum_le7 : ∀ {l : List Str}, (∀ x ∈ l, x.length ≤ 7) → (l.map (·.length)).sum ≤ 7 * l.length
  | [], _ => Nat.zero_le _
  | x :: l, h => by
    have a := h x List.mem_cons_self
    have b := sum_le7 fun y hy => h y (List.mem_cons_of_mem _ hy)
    simp only [List.map_cons, List.sum_cons, List.length_cons]
    omega
theorem len_cm {D : DkS} {cm : Cm} (h : PreD D cm) : (lineM cm).length + 2 ≤ 100000 := by
  obtain ⟨h1, h2, _⟩ := cm_fine h
  unfold lineM
  rw [TL.join_eq]
  have a := StrLaws.join_length_le " " (wordM cm :: restM cm)
  have b := sum_le7 fun x hx => (h1 x hx).2.2.1
  rw [show (" " : Str).length = 1 by decide +kernel] at a
  simp only [List.length_cons] at a b
  omega
theorem word_ne {cm : Cm} : PyData.eqv (.str (wordM cm)) (.str "well") = (match cm with | .well _ => true | _ => false) := by
  cases cm <;> simp only [wordM] <;> decide +kernel
section
variable {P : Program} {w : World} {K : PySem.W.Frag} {mg : Str → Option Value} {base : Heap} {C : Addr}
def spAns (C : Addr) (K : PySem.W.Frag) : Sp := fun vs H Q _ => ∃ (p : Addr) (D : DkS) (cm : Cm), vs = [.ref p, .str (lineM cm)] ∧ DkAt K C H p D ∧ PreD D cm ∧ ∀ H', DkAt K C H' p (stepD D cm).1 → Kp [p] H H' → Q (.str (stepD D cm).2) H'
theorem sc_d_answered : FnScope ["self", "line", "word", "rest", "part"] ["self", "line"] (defScope (inClass (top 79) 10)) := ⟨rfl, rfl, rfl, by decide +kernel, rfl, by decide +kernel, by decide +kernel⟩
theorem ok_answered {f aTk aWW : Addr} {fd fdT fdW : FuncData} (F : Fun K "answered" "Desk.answered" (inClass (top 79) 10) f fd) (T : Tx mg) (Z : TDk K mg C) (D_integer_of : FnD P w K mg base 1 "integer_of" g_integer_of)
    (mT : Meth K C "take_well" aTk) (GT : FnOk P w K mg base CX0 4 aTk fdT ["self", "numbers"] (spTake C K)) (bT : Binds K fdT ["self", "numbers"] [])
    (mW : Meth K C "with_words" aWW) (GW : FnOk P w K mg base CX0 7 aWW fdW ["self", "word", "rest"] (spWW C K)) (bW : Binds K fdW ["self", "word", "rest"] []) : FnOk P w K mg base CX0 8 f fd ["self", "line"] (spAns C K) := by
  refine F.ok sc_d_answered (fun vs H Q E h => ?_) (fun cdv A outer s H vs Q E hr h => ?_)
  · obtain ⟨p, D, cm, rfl, _⟩ := h
    rfl
  · obtain ⟨p, D, cm, rfl, hD, hpre, q⟩ := h
    refine ⟨_, pss_cons (ps_asg (d_split (pd 1) (d_gstr T.c_BLANK)) (pg_star rfl (pg_name (i := 2) sc_d_answered.nd rfl (Or.inl rfl)) (pg_name (i := 3) sc_d_answered.nd rfl (Or.inl rfl))))
      (pss_cons (ps_if (pt_cmpR op_in_str (d_gstr T.c_LINE_END) (pv 1) (by rfl)) (pss_one ps_never) pss_nil)
      (pss_cons (ps_if (t_cmp (op_eqD hr.units) (ov_eq) (pd 2) d_str (nomark _)) (pss_one (ps_ret (pe_meth (pv 0) Z.cl mT GT (hr.mono (by decide)) bT .nil pass0 (pa_cons (d_lc (own := [("part", 4)]) sc_d_answered.nd (i_list (pd 3)) (blkOk_by (N := ["self", "line", "word", "rest", "part"]) (sc := (defScope (inClass (top 79) 10))) (by decide +kernel)) (dg_name 4) (by decide) (fun _ _ _ _ _ => (pg_name (i := 4) sc_d_answered.nd rfl (Or.inl rfl))) (fun _ _ _ _ _ => (d_call D_integer_of (hr.mono (by decide)) (da_cons (pd 4) da_nil)))) pa_nil)))) pss_nil)
      (pss_cons (ps_if (pt_cmpR op_isN (pe_fld (pv 0) rfl) pe_non (nomark _)) (pss_one ps_never) pss_nil)
      (pss_one (ps_ret (pe_ifExp (t_cmp (op_eqD hr.units) (ov_eq) (pd 3) (d_lst da_nil) (nomark _)) pe_nope (pe_meth (pv 0) Z.cl mW GW hr bW .nil pass0 (pa_cons (pv 2) (pa_cons (pv 3) pa_nil))))))))), ?_⟩
    obtain ⟨fine, len9, hne⟩ := cm_fine hpre
    have hlen := len_cm hpre
    refine ⟨[none, some (.str (lineM cm)), none, none, none], .list ((wordM cm :: restM cm).map .str), env_no (env_c (.str _) (env_no (env_no (env_no env_nil)))), ?_, fun vL H1 s1 dL => ?_⟩
    · have e1 : gSplit (.str (lineM cm)) (.str " ") = some (.list ((wordM cm :: restM cm).map .str)) := by
        rw [gSplit_str, if_pos ⟨by decide +kernel, hlen⟩, split_cm hpre]
      simp -implicitDefEqProofs only [L2.f2, fVar, L2.fC, List.getElem?_cons_zero, List.getElem?_cons_succ, Option.join_some, Option.bind_some, e1]
    obtain ⟨a, xs, rfl, hX, dX⟩ := dp_lst dL
    have hxs : xs = (wordM cm :: restM cm).map V.str := strs_some dX (L2.strs_map _)
    subst hxs
    refine ⟨a, .str (wordM cm), (restM cm).map V.str, rfl, hX, (by rw [List.length_map]; omega), fun Dl hDl => ?_⟩
    have sD : Same H1 (upd H1 Dl (.lst ((restM cm).map V.str))) := Same.new hDl
    have s2 := s1.trans sD
    -- if LINE_END in line
    refine ⟨[none, none, none, none, none], .str "\n", env_no (env_no (env_no (env_no (env_no env_nil)))), rfl, fun v3 H3 s3 d3 => ?_⟩
    obtain rfl := dp_str d3
    refine ⟨_, rfl, _, _, rfl, rfl, _, rfl, ?_⟩
    rw [no_nl (nl_cm hpre)]
    refine iteF ?_
    have s13 := s2.trans s3
    have D3 := hD.same s13
    have hrest : ∀ {H'}, Same H3 H' → Dp K H' (.ref Dl) (.list ((restM cm).map .str)) := fun e => (Dp.lst (SqL.of upd_same) (DpAll.of_strs (K := K) (H := upd H1 Dl (.lst ((restM cm).map V.str))) (restM cm))).same (s3.trans e)
    have env3 : ∀ {H'}, Same H3 H' → EnvD K H' [some (.ref p), some (.str (lineM cm)), some (.str (wordM cm)), some (.ref Dl), none] [none, none, some (.str (wordM cm)), some (.list ((restM cm).map .str)), none] := fun e => env_no (env_no (env_c (.str _) (env_c (hrest e) (env_no env_nil))))
    have hsw : SeqAt.shaped (.str (wordM cm)) = true := shaped_of_ok (fine _ List.mem_cons_self).2.2.2
    have hshr := shaped_strs fun x hx => (fine x (List.mem_cons_of_mem _ hx)).2.2.2
    have hs1 : SeqAt.shaped (.str "well") = true := by decide +kernel
    have hE : PyData.eqv (.list ((restM cm).map .str)) (.list []) = false := by
      cases h : restM cm with
      | nil => exact absurd h hne
      | cons x l => simp [PyData.eqv, PyData.eqvAll]
    by_cases hw : ∃ w, cm = .well w
    · obtain ⟨wl, rfl⟩ := hw
      refine ⟨_, true, env3 (Same.refl _), ?_, fun H4 s4 => ?_⟩
      · have e1 : PyData.eqv (.str (wordM (.well wl))) (.str "well") = true := by simp only [wordM]; decide +kernel
        simp -implicitDefEqProofs only [startD, sSeq, sSet, sRet, sIf, sSkip, sNever, sAsgG, sPar, fTup, f2, fSl, fPart, fNoPart, fVar, fC, fCons, fNil, fIf, fT, fCall, fIsa, fOrT, fAndT, fNotT, fAnd, fLc, fRng, fZip, fItemsT, fItemsL, List.map_cons, List.map_nil, List.length_cons, List.length_nil, List.replicate, List.cons_append, List.nil_append, List.getElem?_cons_zero, List.getElem?_cons_succ, List.set_cons_zero, List.set_cons_succ, Option.join_some, Option.join_none, Option.bind_some, Option.map_some, thenR_nx, thenR_rt, asI_int, asB_bool, gAdd_int, gSub_int, gMul_int, gCmpI_int, zBig, Nat.reduceAdd, Nat.reduceLeDiff, Nat.reduceSub, ite_true, ite_false, Bool.false_eq_true, decide_true, decide_false, gIs_none, decide_eq_true_eq, isD_tuple, isD_str, isD_int, isD_bool, isTuple_tuple, Bool.not_true, Bool.not_false, asTup_tup, asLst_lst, asRng_int, asZip_tup, wipeD, gNe, gEq, shaped_int, shaped_bool, shaped_none, and_self, condB_bool, hsw, hs1, e1]
      refine iteT ?_
      have D4 := D3.same s4
      obtain ⟨dx, vc, vs, h1, _⟩ := D4.ob
      refine ⟨_, rfl, p, dx, _, rfl, h1, fldD_no _ _ (by decide +kernel) (by decide +kernel), _, .list ((wNums wl).map .int), env3 s4, ?_, fun v5 H5 s5 d5 => ?_⟩
      · have e1 := nums_read (l := wNums wl) hpre.2 (j := 4) (ρ := [none, none, some (.str (wordM (.well wl))), some (.list ((restM (.well wl)).map .str)), none]) (by show 4 < 5; decide) (by show 9 ≤ 9; decide)
        exact e1
      refine ⟨p, v5, D, wl, rfl, D4.same s5, hpre.1, d5, fun H6 D6 k6 => ?_⟩
      exact q H6 D6 (((s13.trans s4).trans s5).kp.trans k6)
    · have hnw : ∀ w, cm ≠ .well w := fun w e => hw ⟨w, e⟩
      refine ⟨_, false, env3 (Same.refl _), ?_, fun H4 s4 => ?_⟩
      · have e1 : PyData.eqv (.str (wordM cm)) (.str "well") = false := by
          rw [word_ne]
          cases cm <;> first | rfl | exact absurd rfl (hnw _)
        simp -implicitDefEqProofs only [startD, sSeq, sSet, sRet, sIf, sSkip, sNever, sAsgG, sPar, fTup, f2, fSl, fPart, fNoPart, fVar, fC, fCons, fNil, fIf, fT, fCall, fIsa, fOrT, fAndT, fNotT, fAnd, fLc, fRng, fZip, fItemsT, fItemsL, List.map_cons, List.map_nil, List.length_cons, List.length_nil, List.replicate, List.cons_append, List.nil_append, List.getElem?_cons_zero, List.getElem?_cons_succ, List.set_cons_zero, List.set_cons_succ, Option.join_some, Option.join_none, Option.bind_some, Option.map_some, thenR_nx, thenR_rt, asI_int, asB_bool, gAdd_int, gSub_int, gMul_int, gCmpI_int, zBig, Nat.reduceAdd, Nat.reduceLeDiff, Nat.reduceSub, ite_true, ite_false, Bool.false_eq_true, decide_true, decide_false, gIs_none, decide_eq_true_eq, isD_tuple, isD_str, isD_int, isD_bool, isTuple_tuple, Bool.not_true, Bool.not_false, asTup_tup, asLst_lst, asRng_int, asZip_tup, wipeD, gNe, gEq, shaped_int, shaped_bool, shaped_none, and_self, condB_bool, hsw, hs1, e1]
      refine iteF ?_
      have D4 := D3.same s4
      obtain ⟨dx, vc, vs, h1, h2, _⟩ := D4.ob
      have hcl : ∃ c, D.cl = some c := by
        cases cm with
        | well w => exact absurd rfl (hnw w)
        | infl a b => exact ⟨_, hpre.choose_spec.1⟩
        | lvls a b => exact ⟨_, hpre.choose_spec.1⟩
        | beg n lv => exact ⟨_, hpre.choose_spec.1⟩
        | beat i => obtain ⟨c, s, e, _⟩ := hpre; exact ⟨c, e⟩
      obtain ⟨c, hcl⟩ := hcl
      rw [hcl] at h2
      obtain ⟨pc, ys, rfl, hT, dys⟩ := dp_tup (show Dp K H4 vc (encC c) from h2)
      refine ⟨_, rfl, p, C, dx, _, .ref pc, rfl, h1, Z.cl, Z.nC, fldD_c _ _, rfl, _, rfl, ?_⟩
      refine iteF ?_
      refine ⟨_, false, env3 s4, ?_, fun H5 s5 => ?_⟩
      · have z0 : SeqAt.shaped (.list []) = true := by decide +kernel
        simp -implicitDefEqProofs only [startD, sSeq, sSet, sRet, sIf, sSkip, sNever, sAsgG, sPar, fTup, f2, fSl, fPart, fNoPart, fVar, fC, fCons, fNil, fIf, fT, fCall, fIsa, fOrT, fAndT, fNotT, fAnd, fLc, fRng, fZip, fItemsT, fItemsL, List.map_cons, List.map_nil, List.length_cons, List.length_nil, List.replicate, List.cons_append, List.nil_append, List.getElem?_cons_zero, List.getElem?_cons_succ, List.set_cons_zero, List.set_cons_succ, Option.join_some, Option.join_none, Option.bind_some, Option.map_some, thenR_nx, thenR_rt, asI_int, asB_bool, gAdd_int, gSub_int, gMul_int, gCmpI_int, zBig, Nat.reduceAdd, Nat.reduceLeDiff, Nat.reduceSub, ite_true, ite_false, Bool.false_eq_true, decide_true, decide_false, gIs_none, decide_eq_true_eq, isD_tuple, isD_str, isD_int, isD_bool, isTuple_tuple, Bool.not_true, Bool.not_false, asTup_tup, asLst_lst, asRng_int, asZip_tup, wipeD, gNe, gEq, shaped_int, shaped_bool, shaped_none, and_self, condB_bool, fLst, Nat.zero_le, hshr, z0, hE]
      refine iteF ?_
      have D5 := D4.same s5
      obtain ⟨dx5, vc5, vs5, h5, _⟩ := D5.ob
      refine ⟨_, rfl, p, dx5, _, rfl, h5, fldD_no _ _ (by decide +kernel) (by decide +kernel), _, rfl, _, rfl, p, .ref Dl, D, cm, rfl, D5, hnw, hpre, hrest (s4.trans s5), fun H6 D6 k6 => ?_⟩
      exact q H6 D6 (((s13.trans s4).trans s5).kp.trans k6)
theorem sc_d_say : FnScope ["self", "line"] ["self", "line"] (defScope (inClass (top 79) 11)) := ⟨rfl, rfl, rfl, by decide +kernel, rfl, by decide +kernel, by decide +kernel⟩
theorem ok_say {f aAn : Addr} {fd fdA : FuncData} (F : Fun K "say" "Desk.say" (inClass (top 79) 11) f fd) (T : Tx mg) (Z : TDk K mg C) (mA : Meth K C "answered" aAn) (GA : FnOk P w K mg base CX0 8 aAn fdA ["self", "line"] (spAns C K)) (bA : Binds K fdA ["self", "line"] []) : FnOk P w K mg base CX0 9 f fd ["self", "line"] (spAns C K) := by
  refine F.ok sc_d_say (fun vs H Q E h => ?_) (fun cdv A outer s H vs Q E hr h => ?_)
  · obtain ⟨p, D, cm, rfl, _⟩ := h
    rfl
  · obtain ⟨p, D, cm, rfl, hD, hpre, q⟩ := h
    refine ⟨_, pss_cons (ps_if (t_not (t_val (d_isa (T := "str") (pd 1) T.b_isinstance T.b_str (hT := bt_str)))) (pss_one ps_never) pss_nil)
      (pss_one (ps_try_thru0 (pss_one (ps_ret (pe_meth (pv 0) Z.cl mA GA hr bA .nil pass0 (pa_cons (pv 1) pa_nil)))))), ?_⟩
    refine ⟨[none, some (.str (lineM cm))], false, env_no (env_c (.str _) env_nil), ?_, fun H1 s1 => ?_⟩
    · simp -implicitDefEqProofs only [startD, sSeq, sSet, sRet, sIf, sSkip, sNever, sAsgG, sPar, fTup, f2, fSl, fPart, fNoPart, fVar, fC, fCons, fNil, fIf, fT, fCall, fIsa, fOrT, fAndT, fNotT, fAnd, fLc, fRng, fZip, fItemsT, fItemsL, List.map_cons, List.map_nil, List.length_cons, List.length_nil, List.replicate, List.cons_append, List.nil_append, List.getElem?_cons_zero, List.getElem?_cons_succ, List.set_cons_zero, List.set_cons_succ, Option.join_some, Option.join_none, Option.bind_some, Option.map_some, thenR_nx, thenR_rt, asI_int, asB_bool, gAdd_int, gSub_int, gMul_int, gCmpI_int, zBig, Nat.reduceAdd, Nat.reduceLeDiff, Nat.reduceSub, ite_true, ite_false, Bool.false_eq_true, decide_true, decide_false, gIs_none, decide_eq_true_eq, isD_tuple, isD_str, isD_int, isD_bool, isTuple_tuple, Bool.not_true, Bool.not_false, asTup_tup, asLst_lst, asRng_int, asZip_tup, wipeD, gNe, gEq, shaped_int, shaped_bool, shaped_none, and_self, condB_bool, isStr_str]
    refine iteF ?_
    have D1 := hD.same s1
    obtain ⟨dx, vc, vs, h1, _⟩ := D1.ob
    exact ⟨_, rfl, p, dx, _, rfl, h1, fldD_no _ _ (by decide +kernel) (by decide +kernel), _, rfl, p, D, cm, rfl, D1, hpre, fun H2 D2 k2 => q H2 D2 (s1.kp.trans k2)⟩
end
end Pm
set_option maxHeartbeats 4000000
/-! LA: the law's drawing: _law_start, _law_next -/
namespace Pm
open PySem PySem.Spec PyProof.Rows L2
section
variable {P : Program} {w : World} {K : PySem.W.Frag} {mg : Str → Option Value} {base : Heap} {H H' : Hp} {pm a b : Addr}
def kC : Key := Sum.inr "cells"
def kG : Key := Sum.inr "great"
def kT : Key := Sum.inr "turn"
def kSm : Key := Sum.inr "sum"
theorem kne : kC ≠ kG ∧ kC ≠ kT ∧ kC ≠ kSm ∧ kG ≠ kT ∧ kG ≠ kSm ∧ kT ≠ kSm := ⟨by decide +kernel, by decide +kernel, by decide +kernel, by decide +kernel, by decide +kernel, by decide +kernel⟩
def kvM (a b : Addr) (t s : Int) : List (Key × V) := [(kC, .ref a), (kG, .ref b), (kT, .int t), (kSm, .int s)]
theorem get_C {t s : Int} : valV (kvM a b t s) kC = some (.ref a) := by simp [valV, kvM]
theorem get_G {t s : Int} : valV (kvM a b t s) kG = some (.ref b) := by simp [valV, kvM, kne.1]
theorem get_T {t s : Int} : valV (kvM a b t s) kT = some (.int t) := by simp [valV, kvM, kne.2.1, kne.2.2.2.1]
theorem get_S {t s : Int} : valV (kvM a b t s) kSm = some (.int s) := by simp [valV, kvM, kne.2.2.1, kne.2.2.2.2.1, kne.2.2.2.2.2]
theorem put_G {t s : Int} {b' : Addr} : putK (kvM a b t s) kG (.ref b') = kvM a b' t s := by
  have h1 := kne.1; have h2 := kne.2.2.2.1.symm; have h3 := kne.2.2.2.2.1.symm
  simp [putK, kvM, h1, h2, h3]
theorem put_T {t s t' : Int} : putK (kvM a b t s) kT (.int t') = kvM a b t' s := by
  have h1 := kne.2.1; have h2 := kne.2.2.2.1; have h3 := kne.2.2.2.2.2.symm
  simp [putK, kvM, h1, h2, h3]
theorem put_S {t s s' : Int} : putK (kvM a b t s) kSm (.int s') = kvM a b t s' := by
  have h1 := kne.2.2.1; have h2 := kne.2.2.2.2.1; have h3 := kne.2.2.2.2.2
  simp [putK, kvM, h1, h2, h3]
/-- the law's dict at pm -/
structure MAt (H : Hp) (pm : Addr) (cs gs : List Int) (t s : Int) : Prop where
  ex : ∃ a b, a ≠ b ∧ H pm = some (.dK (kvM a b t s)) ∧ H a = some (.lst (cs.map V.int)) ∧ H b = some (.lst (gs.map V.int))
structure MOk (H : Hp) (pm : Addr) (B : Int) : Prop where
  ex : ∃ cs gs t s, MAt H pm cs gs t s ∧ cs ≠ [] ∧ cs.length ≤ 1000 ∧ gs.length ≤ 1000 ∧ 0 ≤ t ∧ t ≤ B ∧ 0 ≤ s ∧ s < 4294967291
/-- data without lists stays -/
def FrD (K : PySem.W.Frag) (H H' : Hp) : Prop := ∀ (v : V) (d : PyData), noL d = true → Dp K H v d → Dp K H' v d
theorem FrD.refl : FrD K H H := fun _ _ _ h => h
theorem FrD.trans {H'' : Hp} (h : FrD K H H') (k : FrD K H' H'') : FrD K H H'' := fun v d n e => k v d n (h v d n e)
theorem same_frd (h : Same H H') : FrD K H H' := fun v d _ e => e.same h
theorem frd_upd {o : HO} (h : NoSeq (H a)) : FrD K H (L2.upd H a o) := fun v d n e => Dp.upd h e n
theorem frd_new {o : HO} (h : H a = none) : FrD K H (L2.upd H a o) := same_frd (Same.new h)
/-- all that is no dict and no list stays -/
def Oth (H H' : Hp) : Prop := ∀ b o, H b = some o → (∀ kvs, o ≠ .dK kvs) → (∀ xs, o ≠ .lst xs) → H' b = some o
structure FrM (K : PySem.W.Frag) (H H' : Hp) : Prop where
  d : FrD K H H'
  o : Oth H H'
theorem FrM.refl : FrM K H H := ⟨FrD.refl, fun _ _ h _ _ => h⟩
theorem FrM.trans {H'' : Hp} (h : FrM K H H') (k : FrM K H' H'') : FrM K H H'' := ⟨h.d.trans k.d, fun b o e n1 n2 => k.o b o (h.o b o e n1 n2) n1 n2⟩
theorem same_frm (h : Same H H') : FrM K H H' := ⟨same_frd h, fun b o e _ _ => h b o e⟩
theorem frm_updD {o : HO} {kvs : List (Key × V)} (h : H a = some (.dK kvs)) : FrM K H (L2.upd H a o) := ⟨frd_upd (by rw [h]; exact ⟨fun _ z => (nomatch z), fun _ _ z => (nomatch z)⟩), fun b o' e n1 _ => by
  have : b ≠ a := fun z => by rw [z, h] at e; exact n1 _ (Option.some.inj e).symm
  rw [upd_ne this]
  exact e⟩
theorem frm_updL {o : HO} {xs : List V} (h : H a = some (.lst xs)) : FrM K H (L2.upd H a o) := ⟨frd_upd (by rw [h]; exact noSeq_lst), fun b o' e _ n2 => by
  have : b ≠ a := fun z => by rw [z, h] at e; exact n2 _ (Option.some.inj e).symm
  rw [upd_ne this]
  exact e⟩
theorem MAt.same {cs gs : List Int} {t s : Int} (h : MAt H pm cs gs t s) (e : Same H H') : MAt H' pm cs gs t s := by
  obtain ⟨a, b, h0, h1, h2, h3⟩ := h.ex
  exact ⟨a, b, h0, e _ _ h1, e _ _ h2, e _ _ h3⟩
theorem MOk.same {B : Int} (h : MOk H pm B) (e : Same H H') : MOk H' pm B := by
  obtain ⟨cs, gs, t, s, h1, h2⟩ := h.ex
  exact ⟨cs, gs, t, s, h1.same e, h2⟩
theorem MOk.mono {B B' : Int} (h : MOk H pm B) (e : B ≤ B') : MOk H pm B' := by
  obtain ⟨cs, gs, t, s, h1, h2, h3, h4, h5, h6, h7⟩ := h.ex
  exact ⟨cs, gs, t, s, h1, h2, h3, h4, h5, by omega, h7⟩
theorem noSeq_dK {kvs : List (Key × V)} : NoSeq (some (HO.dK kvs)) := ⟨fun _ z => (nomatch z), fun _ _ z => (nomatch z)⟩
theorem ne_dl {kvs : List (Key × V)} {xs : List V} (h1 : H a = some (.dK kvs)) (h2 : H b = some (.lst xs)) : b ≠ a := fun z => by rw [z, h1] at h2; cases h2
theorem shaped_Li (ns : List Int) : SeqAt.shaped (.list (ns.map .int)) = true := by
  simp [SeqAt.shaped, PyData.canLay0, PyData.depth, canLay_ints, depth_ints]
theorem eqv_Li (ns : List Int) : PyData.eqv (.list (ns.map .int)) (.list []) = decide (ns = []) := by
  cases ns <;> simp [PyData.eqv, PyData.eqvAll]
theorem dget {kvs : List (Key × V)} {k : Key} {v : V} (h : H pm = some (.dK kvs)) (e : valV kvs k = some v) : DGet H pm (kV k) (some v) := by
  rw [← e]
  exact DGet.k h
theorem cutV_1 (xs : List V) : cutV xs (some 1) none = xs.drop 1 := by
  unfold cutV
  rw [show (1 : Int) = ((1 : Nat) : Int) from rfl, HT.sIx_none, HT.sIx_nat]
  by_cases h : 1 ≤ xs.length
  · rw [Nat.min_eq_left h]
    rw [List.take_of_length_le (by simp)]
  · have : xs = [] := List.eq_nil_of_length_eq_zero (by omega)
    subst this
    rfl
theorem lenM {t s : Int} : (kvM a b t s).length < sizeLine := by
  show 4 < sizeLine
  rw [sizeLine_eq]
  decide
/-- the dict and its two lists, between the steps -/
structure Mx (K : PySem.W.Frag) (H0 H : Hp) (pm a b : Addr) (cs gs : List Int) (t s : Int) : Prop where
  ab : a ≠ b
  d : H pm = some (.dK (kvM a b t s))
  c : H a = some (.lst (cs.map V.int))
  g : H b = some (.lst (gs.map V.int))
  fr : FrM K H0 H
theorem Mx.same {H0 : Hp} {cs gs : List Int} {t s : Int} (h : Mx K H0 H pm a b cs gs t s) (e : Same H H') : Mx K H0 H' pm a b cs gs t s := ⟨h.ab, e _ _ h.d, e _ _ h.c, e _ _ h.g, h.fr.trans (same_frm e)⟩
theorem Mx.setD {H0 : Hp} {cs gs : List Int} {t s t' s' : Int} (h : Mx K H0 H pm a b cs gs t s) : Mx K H0 (L2.upd H pm (.dK (kvM a b t' s'))) pm a b cs gs t' s' :=
  ⟨h.ab, upd_same, by rw [upd_ne (ne_dl h.d h.c)]; exact h.c, by rw [upd_ne (ne_dl h.d h.g)]; exact h.g, h.fr.trans (frm_updD h.d)⟩
theorem Mx.setG {H0 : Hp} {cs gs gs' : List Int} {t s : Int} {b' : Addr} (h : Mx K H0 H pm a b cs gs t s) (hn : a ≠ b') (hb : H b' = some (.lst (gs'.map V.int))) : Mx K H0 (L2.upd H pm (.dK (kvM a b' t s))) pm a b' cs gs' t s :=
  ⟨hn, upd_same, by rw [upd_ne (ne_dl h.d h.c)]; exact h.c, by rw [upd_ne (ne_dl h.d hb)]; exact hb, h.fr.trans (frm_updD h.d)⟩
def tst : List Int → Bool
  | [] => false
  | g :: _ => decide (g = 0)
theorem and_tst {gs : List Int} {T2 : TT} {σ : L2.St} {H3 : Hp} {Q' : Bool → Hp → Prop} (h : ∀ g r, gs = g :: r → Q' (decide (g = 0)) H3 → T2 σ H3 Q') (q : Q' (tst gs) H3) : if (!decide (gs = [])) = true then T2 σ H3 Q' else Q' false H3 := by
  cases gs with
  | nil =>
    rw [if_neg (by simp)]
    exact q
  | cons g r =>
    rw [if_pos (by simp)]
    exact h g r rfl q
def spNext (K : PySem.W.Frag) : Sp := fun vs H Q _ => ∃ (pm : Addr) (n B : Int), vs = [.ref pm, .int n] ∧ 0 < n ∧ n < 1000000 ∧ B ≤ 100000 ∧ MOk H pm B ∧ ∀ r H', 0 ≤ r → r < n → MOk H' pm (B + 1) → FrM K H H' → Q (.int r) H'
theorem sc_next : FnScope ["_law_m", "_law_total", "_law_cell", "_law_found"] ["_law_m", "_law_total"] (defScope (top 82)) := ⟨rfl, rfl, rfl, by decide +kernel, rfl, by decide +kernel, by decide +kernel⟩
theorem ok_next {f : Addr} {fd : FuncData} (F : Fun K "_law_next" "_law_next" (top 82) f fd) (T : Tx mg) : FnOk P w K mg base CX0 1 f fd ["_law_m", "_law_total"] (spNext K) := by
  refine F.ok sc_next (fun vs H Q E h => ?_) (fun cdv A outer s H vs Q E hr h => ?_)
  · obtain ⟨pm, n, B, rfl, _⟩ := h
    rfl
  · obtain ⟨pm, n, B, rfl, n0, n1, hB, hM, q⟩ := h
    have hu := hu_of hr
    refine ⟨_, pss_cons (ps_dput hu (pv 0) pe_str (pe_op op_add (pe_dget hu (pv 0) pe_str (fun _ _ => rfl)) pe_int) rfl)
      (pss_cons (ps_while PassesOwn.never (PW.pt (pw_and (pt_cmpR (op_neD hr.units) (pe_dget hu (pv 0) pe_str (fun _ _ => rfl)) (pe_lst pa_nil) (nomark _)) (pw_and1 (pt_cmpR op_eq (pe_ix ix_list (pe_dget hu (pv 0) pe_str (fun _ _ => rfl)) pe_int (fun _ _ => rfl)) pe_int (nomark _)))))
        (pss_one (ps_dput hu (pv 0) pe_str (pe_slice sl_list (pe_dget hu (pv 0) pe_str (fun _ _ => rfl)) (po_some pe_int) po_none) rfl)))
      (pss_cons (ps_if (pt_cmpR (op_neD hr.units) (pe_dget hu (pv 0) pe_str (fun _ _ => rfl)) (pe_lst pa_nil) (nomark _))
        (pss_cons (ps_asg (pe_tup (pa_cons (pe_op op_mod (pe_callTy call_int1 (by rfl) T.b_int bt_int (pa_cons (pe_ix ix_list (pe_dget hu (pv 0) pe_str (fun _ _ => rfl)) pe_int (fun _ _ => rfl)) pa_nil)) (pv 1)) (pa_cons (pe_op op_fdiv (pe_callTy call_int1 (by rfl) T.b_int bt_int (pa_cons (pe_ix ix_list (pe_dget hu (pv 0) pe_str (fun _ _ => rfl)) pe_int (fun _ _ => rfl)) pa_nil)) (pv 1)) pa_nil)))
            (pg_tup rfl (pgs_cons (pg_name (i := 3) sc_next.nd rfl (Or.inl rfl)) (pgs_cons (pg_sub (pe_dget hu (pv 0) pe_str (fun _ _ => rfl)) pe_int set_list) pgs_nil))))
        (pss_one (ps_ret (pv 3)))) pss_nil)
      (pss_cons (ps_set (i := 2) sc_next.nd rfl (Or.inl rfl) (pe_ix ix_list (pe_dget hu (pv 0) pe_str (fun _ _ => rfl)) (pe_op op_mod (pe_callTy call_int1 (by rfl) T.b_int bt_int (pa_cons (pe_dget hu (pv 0) pe_str (fun _ _ => rfl)) pa_nil)) (pe_callB call_len_seq (by rfl) T.b_len bt_len (pa_cons (pe_dget hu (pv 0) pe_str (fun _ _ => rfl)) pa_nil))) (fun _ _ => rfl)))
      (pss_cons (ps_dput hu (pv 0) pe_str (pe_op op_mod (pe_callTy call_int1 (by rfl) T.b_int bt_int (pa_cons (pe_op op_add (pe_op op_add (pe_op op_mul (pe_dget hu (pv 0) pe_str (fun _ _ => rfl)) pe_int) (pe_op op_mod (pe_callTy call_int1 (by rfl) T.b_int bt_int (pa_cons (pv 2) pa_nil)) pe_int)) (pe_op op_mul pe_int (pe_dget hu (pv 0) pe_str (fun _ _ => rfl)))) pa_nil)) pe_int) rfl)
      (pss_one (ps_ret (pe_op op_mod (pe_op op_fdiv (pe_op op_mod (pe_callTy call_int1 (by rfl) T.b_int bt_int (pa_cons (pe_op op_add (pe_op op_mul (pe_dget hu (pv 0) pe_str (fun _ _ => rfl)) pe_int) (pe_dget hu (pv 0) pe_str (fun _ _ => rfl))) pa_nil)) pe_int) pe_int) (pv 1)))))))), ?_⟩
    obtain ⟨cs, gs, t, s, ⟨a, b, h0, h1, h2, h3⟩, c1, c2, c3, c4, c5, c6, c7⟩ := hM.ex
    have M0 : Mx K H H pm a b cs gs t s := ⟨h0, h1, h2, h3, FrM.refl⟩
    -- turn + 1
    refine ⟨_, rfl, pm, .int t, rfl, dget (k := kT) h1 get_T, _, _, rfl, rfl, _, rfl, pm, _, rfl, DPut.k (k := kT) h1 lenM, ?_⟩
    have M1 := M0.setD (t' := t + 1) (s' := s)
    have ep : putK (kvM a b t s) kT (.int (t + 1)) = kvM a b (t + 1) s := put_T
    rw [ep]
    -- while
    have z0 : SeqAt.shaped (.list []) = true := by decide +kernel
    refine ⟨fun m σ H2 => ∃ gs b, m = gs.length ∧ σ = [some (.ref pm), some (.int n), none, none] ∧ Mx K H H2 pm a b cs gs (t + 1) s ∧ gs.length ≤ 1000, ⟨_, gs, b, rfl, rfl, M1, c3⟩, ?_⟩
    rintro m σ H2 ⟨gs2, b2, rfl, rfl, M2, l2⟩
    refine ⟨_, rfl, pm, .ref b2, rfl, dget (k := kG) M2.d get_G, (by show 0 ≤ sizeLine; exact Nat.zero_le _), fun l hl => ?_⟩
    have M3 := M2.same (Same.new (o := .lst []) hl)
    refine ⟨.list (gs2.map .int), .list [], .lst (SqL.of M3.g) (DpAll.of_ints gs2), .lst (SqL.of upd_same) .nil, shaped_Li _, z0, _, rfl, ?_⟩
    rw [eqv_Li]
    generalize upd H2 l (.lst []) = H3 at M3
    refine and_tst (fun g r eg hq => ?_) ?_
    · rw [eg] at M3
      refine ⟨_, rfl, pm, .ref b2, rfl, dget (k := kG) M3.d get_G, b2, _, 0, .int g, rfl, rfl, SqL.of M3.g, (by rw [List.map_cons]; exact atI_z _ _), rfl, _, rfl, ?_⟩
      have e : decide (V.int g = V.int 0) = decide (g = 0) := by
        by_cases hg : g = 0
        · subst hg; rfl
        · rw [decide_eq_false hg, decide_eq_false (fun z => hg (by injection z))]
      rw [e]
      exact hq
    by_cases ht : tst gs2 = true
    · rw [ht]
      refine iteT ?_
      refine ⟨fun σ' H' => ∃ m', m' < gs2.length ∧ ∃ gs b, m' = gs.length ∧ σ' = [some (.ref pm), some (.int n), none, none] ∧ Mx K H H' pm a b cs gs (t + 1) s ∧ gs.length ≤ 1000, fun _ _ h => h, ?_⟩
      cases gs2 with
      | nil => cases ht
      | cons g r =>
        refine ⟨_, rfl, pm, .ref b2, rfl, dget (k := kG) M3.d get_G, 1, rfl, b2, _, rfl, SqL.of M3.g, fun l2' hl2' => ?_⟩
        have M4 := M3.same (Same.new (o := .lst (cutV ((g :: r).map V.int) (some 1) none)) hl2')
        refine ⟨_, rfl, pm, _, rfl, DPut.k (k := kG) M4.d lenM, r.length, by simp, r, l2', rfl, rfl, ?_, by simp at l2; omega⟩
        rw [put_G]
        refine M4.setG (ne_of_none M3.c hl2') ?_
        rw [upd_same, cutV_1]
        rfl
    have ht' : tst gs2 = false := by simpa using ht
    rw [ht']
    refine iteF ?_
    -- if m['great'] != []
    refine ⟨_, rfl, pm, .ref b2, rfl, dget (k := kG) M3.d get_G, (by show 0 ≤ sizeLine; exact Nat.zero_le _), fun l3 hl3 => ?_⟩
    have M6 := M3.same (Same.new (o := .lst []) hl3)
    refine ⟨.list (gs2.map .int), .list [], .lst (SqL.of M6.g) (DpAll.of_ints gs2), .lst (SqL.of upd_same) .nil, shaped_Li _, z0, _, rfl, ?_⟩
    rw [eqv_Li]
    generalize upd H3 l3 (.lst []) = H6 at M6
    cases gs2 with
    | cons g r =>
      refine iteT ?_
      have hix : atI ((g :: r).map V.int) 0 = some (V.int g) := by rw [List.map_cons]; exact atI_z _ _
      refine ⟨_, rfl, pm, .ref b2, rfl, dget (k := kG) M6.d get_G, b2, _, 0, .int g, rfl, rfl, SqL.of M6.g, hix, .inl ⟨g, rfl, _, rfl, _, _, rfl, rfl, n0, ?_⟩⟩
      refine ⟨_, rfl, pm, .ref b2, rfl, dget (k := kG) M6.d get_G, b2, _, 0, .int g, rfl, rfl, SqL.of M6.g, hix, .inl ⟨g, rfl, _, rfl, _, _, rfl, rfl, ⟨n0, by omega⟩, ?_⟩⟩
      refine ⟨(by show 2 ≤ sizeLine; decide), fun tp htp => ?_⟩
      have M7 := M6.same (Same.new (o := .tup [.int (g % n), .int (g / n)]) htp)
      refine ⟨tp, _, rfl, SqT.of upd_same, rfl, _, _, rfl, _, _, rfl, _, rfl, pm, .ref b2, rfl, dget (k := kG) M7.d get_G, b2, _, 0, 0, rfl, rfl, M7.g, by simp [ixN], rfl, ?_⟩
      refine ⟨_, rfl, ?_⟩
      have nb : pm ≠ b2 := (ne_dl M7.d M7.g).symm
      have hab := M7.ab
      refine q (g % n) _ (Int.emod_nonneg _ (by omega)) (Int.emod_lt_of_pos _ n0) ⟨cs, (g / n) :: r, t + 1, s, ⟨a, b2, hab, by rw [upd_ne nb]; exact M7.d, by rw [upd_ne hab]; exact M7.c, upd_same⟩, c1, c2, by simpa using l2, by omega, by omega, c6, c7⟩ (M7.fr.trans (frm_updL M7.g))
    | nil =>
      refine iteF ?_
      -- the cell
      have hcl : 0 < cs.length := List.length_pos_iff.mpr c1
      have hj0 : 0 ≤ (t + 1) % (cs.length : Int) := Int.emod_nonneg _ (by omega)
      have hj1 : (t + 1) % (cs.length : Int) < cs.length := Int.emod_lt_of_pos _ (by omega)
      obtain ⟨j, hj⟩ : ∃ j : Nat, (t + 1) % (cs.length : Int) = (j : Int) := ⟨((t + 1) % (cs.length : Int)).toNat, by omega⟩
      have hjl : j < cs.length := by omega
      have hat : atI (cs.map V.int) ((t + 1) % ((cs.map V.int).length : Int)) = some (.int cs[j]) := by
        rw [List.length_map, atI_nat' _ _ j hj, List.getElem?_map, List.getElem?_eq_getElem hjl]
        rfl
      refine ⟨_, rfl, pm, .ref a, rfl, dget (k := kC) M6.d get_C, ?_⟩
      refine ⟨_, rfl, pm, .int (t + 1), rfl, dget (k := kT) M6.d get_T, .inl ⟨t + 1, rfl, ?_⟩⟩
      refine ⟨_, rfl, pm, .ref a, rfl, dget (k := kC) M6.d get_C, a, _, rfl, .inl (SqL.of M6.c), _, _, rfl, rfl, (by rw [List.length_map]; omega), a, _, _, .int cs[j], rfl, rfl, SqL.of M6.c, hat, ?_⟩
      -- the sum
      have hs1 : -(2 ^ 64) < s ∧ s < 2 ^ 64 := by omega
      have z1 : (0 : Int) < 2147483587 := by decide
      have z2 : (0 : Int) < 4294967291 := by decide
      have z3 : (0 : Int) < 4294967279 := by decide
      refine ⟨_, rfl, pm, .int s, rfl, dget (k := kSm) M6.d get_S, _, _, rfl, rfl, .inl hs1, _, rfl, .inl ⟨cs[j], rfl, _, _, rfl, rfl, z1, _, _, rfl, rfl, _, rfl, pm, .int (t + 1), rfl, dget (k := kT) M6.d get_T, _, _, rfl, rfl, .inl (by decide), _, _, rfl, rfl, .inl ⟨_, rfl, _, _, rfl, rfl, z2, ?_⟩⟩⟩
      have S0 : 0 ≤ (s * 75364 + cs[j] % 2147483587 + 977 * (t + 1)) % 4294967291 := Int.emod_nonneg _ (by decide)
      have S1 : (s * 75364 + cs[j] % 2147483587 + 977 * (t + 1)) % 4294967291 < 4294967291 := Int.emod_lt_of_pos _ z2
      refine ⟨_, rfl, pm, _, rfl, DPut.k (k := kSm) M6.d lenM, ?_⟩
      rw [put_S]
      have M8 := M6.setD (t' := t + 1) (s' := (s * 75364 + cs[j] % 2147483587 + 977 * (t + 1)) % 4294967291)
      generalize (s * 75364 + cs[j] % 2147483587 + 977 * (t + 1)) % 4294967291 = S at S0 S1 M8 ⊢
      have hs2 : -(2 ^ 64) < S ∧ S < 2 ^ 64 := by omega
      refine ⟨_, rfl, pm, .int S, rfl, dget (k := kSm) M8.d get_S, _, _, rfl, rfl, .inl hs2, _, rfl, pm, .int (t + 1), rfl, dget (k := kT) M8.d get_T, _, _, rfl, rfl, .inl ⟨_, rfl, _, _, rfl, rfl, z3, _, _, rfl, rfl, ⟨by decide, by decide⟩, _, rfl, _, _, rfl, rfl, n0, ?_⟩⟩
      exact q _ _ (Int.emod_nonneg _ (by omega)) (Int.emod_lt_of_pos _ n0) ⟨cs, [], t + 1, S, ⟨a, b2, M8.ab, M8.d, M8.c, M8.g⟩, c1, c2, by simp, by omega, by omega, S0, S1⟩ M8.fr
end
end Pm
set_option maxHeartbeats 4000000
/-! LB: the law's own beat -/
namespace Pm
open PySem PySem.Spec PyProof.Rows L2
section
variable {P : Program} {w : World} {K : PySem.W.Frag} {mg : Str → Option Value} {base : Heap}
def hdP (w : Wl) (s : Sst) : Int := if 0 < w.lag then s.past.headD 0 else s.lv
theorem sc_lbeat : FnScope ["_law_well_so", "_law_state_so", "_law_inflow", "_law_seen", "_law_fresh", "_law_gone", "_law_older", "_law_last", "_law_rows", "_law_ready", "_law_later", "_law_top_so", "_law_drain", "_law_on_so", "_law_off_so", "_law_begins", "_law_step", "_law_level", "_law_past", "_law_runs_so", "_law_rests_so"] ["_law_well_so", "_law_state_so", "_law_inflow"] (defScope (top 84)) := ⟨rfl, rfl, rfl, by decide +kernel, rfl, by decide +kernel, by decide +kernel⟩
noncomputable def g_law_beat : List PyData → Option PyData := mkF (α := Wl × Sst × Int) (fun x => WOk x.1 ∧ Shp x.1 x.2.1) (fun x => [encW x.1, encS x.2.1, .int x.2.2]) (fun x => encR (beatS x.1 x.2.1 x.2.2))
theorem g_law_beat_eq {wl : Wl} (hw : WOk wl) {s : Sst} (hs : Shp wl s) (i : Int) : g_law_beat [encW wl, encS s, .int i] = some (encR (beatS wl s i)) := mkF_eq (a := (wl, s, i)) inj_WSI ⟨hw, hs⟩
def noLE (ρ : DE) : Bool := ρ.all fun o => match o with
  | some d => noL d
  | none => true
theorem env_frd {H H' : Hp} {σ : L2.St} {ρ : DE} (h : EnvD K H σ ρ) (f : FrD K H H') (n : noLE ρ = true) : EnvD K H' σ ρ := by
  refine ⟨h.1, fun i d hi => ?_⟩
  obtain ⟨v, h1, h2⟩ := h.2 i d hi
  refine ⟨v, h1, f v d ?_ h2⟩
  have := List.all_eq_true.mp n (some d) (List.mem_of_getElem? hi)
  exact this
theorem on_set (a : Int) (rs : List Int) (v : Int) (h : rs ≠ []) : (a :: rs).dropLast.set (rs.length - 1) v = (a :: rs).take (rs.length - 1) ++ [v] := by
  have hl : 0 < rs.length := List.length_pos_iff.mpr h
  rw [List.dropLast_eq_take, List.length_cons, Nat.add_sub_cancel]
  apply List.ext_getElem?
  intro j
  rw [List.getElem?_set]
  by_cases hj : rs.length - 1 = j
  · subst hj
    rw [if_pos rfl, if_pos (by rw [List.length_take]; simp; omega), List.getElem?_append_right (by rw [List.length_take]; simp; omega)]
    rw [List.length_take]
    simp
    rw [show rs.length - 1 - min (rs.length - 1) (rs.length + 1) = 0 by omega]
    rfl
  · rw [if_neg hj]
    rcases Nat.lt_or_ge j (rs.length - 1) with h1 | h1
    · rw [List.getElem?_append_left (by rw [List.length_take]; simp; omega), List.getElem?_take, List.getElem?_take, if_pos (by omega), if_pos h1]
    · rw [List.getElem?_append_right (by rw [List.length_take]; simp; omega), List.getElem?_take, if_neg (by omega)]
      symm
      apply List.getElem?_eq_none
      rw [List.length_take]
      simp
      omega
theorem setT4 (a b c d : PyData) (ρ : DE) (i j k l : Nat) : setT [i, j, k, l] (.tuple [a, b, c, d]) ρ = some ((((ρ.set i (some a)).set j (some b)).set k (some c)).set l (some d)) := rfl
theorem setT5S (s : Sst) (ρ : DE) (i j k l m : Nat) : setT [i, j, k, l, m] (encS s) ρ = some (((((ρ.set i (some (.int s.lv))).set j (some (encI s.past))).set k (some (encI s.runs))).set l (some (encI s.rests))).set m (some (encO s.ready))) := rfl
theorem ok_law_beat {f : Addr} {fd : FuncData} (F : Fun K "_law_beat" "_law_beat" (top 84) f fd) (T : Tx mg) : FnOk P w K mg base CX0 1 f fd ["_law_well_so", "_law_state_so", "_law_inflow"] (spF g_law_beat K) := by
  refine F.ok sc_lbeat (fun vs H Q E h => ?_) (fun cdv A outer s0 H vs Q E hr h => ?_)
  · obtain ⟨ds, d, h1, h2, _⟩ := h
    obtain ⟨x, hP, rfl, rfl⟩ := mkF_some h2
    exact h1.length
  · obtain ⟨ds, d, h1, h2, q⟩ := h
    obtain ⟨⟨w, s, i⟩, hP, rfl, rfl⟩ := mkF_some h2
    obtain ⟨hw, hs⟩ := hP
    simp only at hw hs q
    obtain ⟨vw, vst, vi, rfl, dw, dst, di⟩ := dpa3 h1
    refine ⟨_, pss_cons (s_asg (d_slice (pd 0) do_none (do_some d_int)) (pg_tup rfl (pgs_cons (pg_name (i := 11) sc_lbeat.nd rfl (Or.inl rfl)) (pgs_cons (pg_name (i := 12) sc_lbeat.nd rfl (Or.inl rfl)) (pgs_cons (pg_name (i := 13) sc_lbeat.nd rfl (Or.inl rfl)) (pgs_cons (pg_name (i := 14) sc_lbeat.nd rfl (Or.inl rfl)) pgs_nil))))) (dg_tup [11, 12, 13, 14] 4))
      (pss_cons (s_asg (d_slice (pd 0) (do_some d_int) (do_some d_int)) (pg_tup rfl (pgs_cons (pg_name (i := 15) sc_lbeat.nd rfl (Or.inl rfl)) (pgs_cons (pg_name (i := 16) sc_lbeat.nd rfl (Or.inl rfl)) pgs_nil))) (dg_tup [15, 16] 2))
      (pss_cons (s_asg (pd 1) (pg_tup rfl (pgs_cons (pg_name (i := 17) sc_lbeat.nd rfl (Or.inl rfl)) (pgs_cons (pg_name (i := 18) sc_lbeat.nd rfl (Or.inl rfl)) (pgs_cons (pg_name (i := 19) sc_lbeat.nd rfl (Or.inl rfl)) (pgs_cons (pg_name (i := 20) sc_lbeat.nd rfl (Or.inl rfl)) (pgs_cons (pg_name (i := 9) sc_lbeat.nd rfl (Or.inl rfl)) pgs_nil)))))) (dg_tup [17, 18, 19, 20, 9] 5))
      (pss_cons (s_set 3 sc_lbeat.nd (d_ix (d_bin op_addAll ov_add (pd 18) (d_tup (da_cons (pd 17) da_nil))) d_int))
      (pss_cons (s_set 3 sc_lbeat.nd (d_bin op_sub ov_sub (pd 3) (d_bin op_mod ov_mod (d_callTy cv_int1 call_int1 T.b_int (da_cons (pd 3) da_nil) (hv := bt_int)) (pd 16))))
      (pss_cons (s_set 4 sc_lbeat.nd (d_if (t_cmp (op_lt) (ov_cmpI _) (pd 3) (pd 13) (nomark _)) d_int (d_if (t_cmp (op_isN) (ov_is) (pd 9) d_non (nomark _)) (pd 15) (d_callB cv_2I (call_min2 rfl) T.b_min (da_cons (pd 15) (da_cons (pd 9) da_nil)) (hv := bt_min)))))
      (pss_cons (s_set 5 sc_lbeat.nd (d_if (t_cmp (op_le) (ov_cmpI _) (pd 3) (pd 14) (nomark _)) (d_ix (pd 19) (d_neg)) d_int))
      (pss_cons (ps_set (i := 6) sc_lbeat.nd rfl (Or.inl rfl) (pe_op op_cat (pe_lst (pa_cons (pv 4) pa_nil)) (pe_callTy call_list_of (by rfl) T.b_list bt_list (pa_cons (pv 19) pa_nil))))
      (pss_cons (ps_set (i := 7) sc_lbeat.nd rfl (Or.inl rfl) (pe_bm0 PySem.F.plainAttrs_list PySem.F.slot_list_pop PySem.F.type_list_pop mt_pop (pv 6)))
      (pss_cons (ps_asg (d_bin op_sub ov_sub (d_bin op_addAll ov_add (d_ix (pd 6) (d_neg)) (pd 7)) (pd 5)) (pg_sub (pv 6) (pe_un un_neg pe_int) set_list))
      (pss_cons (ps_set (i := 8) sc_lbeat.nd rfl (Or.inl rfl) (pe_op op_cat (pe_lst (pa_cons (pv 5) pa_nil)) (pe_callTy call_list_of (by rfl) T.b_list bt_list (pa_cons (pv 20) pa_nil))))
      (pss_cons (s_set 9 sc_lbeat.nd (d_if (t_cmp (op_isN) (ov_is) (pd 9) d_non (nomark _)) d_non (d_bin op_addAll ov_add (d_bin op_sub ov_sub (pd 9) (pd 4)) (d_ix (pd 8) (d_neg)))))
      (pss_cons (s_set 10 sc_lbeat.nd (d_bin op_sub ov_sub (d_bin op_addAll ov_add (pd 17) (pd 2)) (d_bin op_mul ov_mul (pd 12) (d_callB cv_sum (cr_sumD rfl) T.b_sum (da_cons (pd 6) da_nil) (hv := bt_sum)))))
      (pss_cons (s_if (t_not (t_chain op_le (ov_cmpI _) op_le (ov_cmpI _) d_int (pd 10) (pd 11))) (ss_one (s_ret (d_if (t_cmp (op_gt) (ov_cmpI _) (pd 10) (pd 11) (nomark _)) d_str d_str))) ss_nil)
      (pss_one (s_ret (d_tup (da_cons (pd 10) (da_cons (d_slice (d_bin op_addAll ov_add (pd 18) (d_tup (da_cons (pd 17) da_nil))) (do_some d_int) do_none) (da_cons (d_callTy cv_tupOf call_tuple_of T.b_tuple (da_cons (pd 6) da_nil) (hv := bt_tuple)) (da_cons (d_callTy cv_tupOf call_tuple_of T.b_tuple (da_cons (d_slice (pd 8) do_none (do_some (d_neg))) da_nil) (hv := bt_tuple)) (da_cons (pd 9) da_nil))))))))))))))))))))), ?_⟩
    have v0 : EnvD K H (L2.start ["_law_well_so", "_law_state_so", "_law_inflow", "_law_seen", "_law_fresh", "_law_gone", "_law_older", "_law_last", "_law_rows", "_law_ready", "_law_later", "_law_top_so", "_law_drain", "_law_on_so", "_law_off_so", "_law_begins", "_law_step", "_law_level", "_law_past", "_law_runs_so", "_law_rests_so"] [vw, vst, vi]) [some (encW w), some (encS s), some (.int i), none, none, none, none, none, none, none, none, none, none, none, none, none, none, none, none, none, none] := env_c dw (env_c dst (env_c di (by repeat (first | exact env_nil | refine env_no ?_))))
    have x4 : gSl (encW w) none (some 4) = some (.tuple [.int w.top, .int w.drain, .int w.on, .int w.off]) := by
      unfold encW
      rw [gSl_tup, show (4 : Int) = ((4 : Nat) : Int) from rfl, cutP_to]
      rfl
    have x67 : gSl (encW w) (some 6) (some 8) = some (.tuple [.int w.starts, .int w.step]) := by
      unfold encW
      rw [gSl_tup]
      rfl
    have lp : s.past.length ≤ 3 := by have := hs.past; have := hw.lag; omega
    have xP : gAdd (encI s.past) (.tuple [.int s.lv]) = some (encI (s.past ++ [s.lv])) := by
      rw [one_I, add_II _ _ (by simp; omega)]
    have xP0 : gIx (encI (s.past ++ [s.lv])) (.int 0) = some (.int (hdP w s)) := by
      have := hs.past
      unfold hdP
      cases hp : s.past with
      | nil =>
        rw [hp] at this
        simp at this
        rw [if_neg (by omega)]
        rfl
      | cons x r =>
        rw [hp] at this
        simp at this
        rw [if_pos (by omega)]
        simp [encI]
    have x0 : 0 < w.step := by have := hw.step; omega
    have hrn : s.runs ≠ [] := fun z => by have h1 := hs.runs; have h2 := hw.run; rw [z] at h1; simp at h1; omega
    have xL : gIx (encI s.runs) (.int (-1)) = some (.int (s.runs.getLastD 0)) := by
      unfold encI
      rw [gIx_tup, atI_m1 _ (.int 0) (by simpa using hrn)]
      congr 1
      rw [List.getLastD_eq_getLast?, List.getLastD_eq_getLast?, List.getLast?_map]
      cases h : s.runs.getLast? with
      | none => exact absurd (List.getLast?_eq_none_iff.mp h) hrn
      | some x => rfl
    refine ⟨_, .nx [some (encW w), some (encS s), some (.int i), none, none, none, none, none, none, none, none, some (.int w.top), some (.int w.drain), some (.int w.on), some (.int w.off), none, none, none, none, none, none], v0, ?_, fun ρ' e9 σ1 H1 s1 v1 => ?_, fun d e9 => (nomatch e9)⟩
    · simp -implicitDefEqProofs only [startD, sSeq, sSet, sRet, sIf, sSkip, sNever, sAsgG, sPar, fTup, f2, fSl, fPart, fNoPart, fVar, fC, fCons, fNil, fIf, fT, fCall, fIsa, fOrT, fAndT, fNotT, fAnd, fLc, fRng, fZip, fItemsT, fItemsL, List.map_cons, List.map_nil, List.length_cons, List.length_nil, List.replicate, List.cons_append, List.nil_append, List.getElem?_cons_zero, List.getElem?_cons_succ, List.set_cons_zero, List.set_cons_succ, Option.join_some, Option.join_none, Option.bind_some, Option.map_some, thenR_nx, thenR_rt, asI_int, asB_bool, gAdd_int, gSub_int, gMul_int, gCmpI_int, zBig, Nat.reduceAdd, Nat.reduceLeDiff, Nat.reduceSub, ite_true, ite_false, Bool.false_eq_true, decide_true, decide_false, gIs_none, decide_eq_true_eq, isD_tuple, isD_str, isD_int, isD_bool, isTuple_tuple, Bool.not_true, Bool.not_false, asTup_tup, asLst_lst, asRng_int, asZip_tup, wipeD, gNe, gEq, shaped_int, shaped_bool, shaped_none, and_self, condB_bool, sAsgG, setAll, gMulT_tup, x4, setT4]
      all_goals rfl
    cases e9
    refine ⟨_, .nx [some (encW w), some (encS s), some (.int i), none, none, none, none, none, none, none, none, some (.int w.top), some (.int w.drain), some (.int w.on), some (.int w.off), some (.int w.starts), some (.int w.step), none, none, none, none], v1, ?_, fun ρ' e9 σ2 H2 s2 v2 => ?_, fun d e9 => (nomatch e9)⟩
    · simp -implicitDefEqProofs only [startD, sSeq, sSet, sRet, sIf, sSkip, sNever, sAsgG, sPar, fTup, f2, fSl, fPart, fNoPart, fVar, fC, fCons, fNil, fIf, fT, fCall, fIsa, fOrT, fAndT, fNotT, fAnd, fLc, fRng, fZip, fItemsT, fItemsL, List.map_cons, List.map_nil, List.length_cons, List.length_nil, List.replicate, List.cons_append, List.nil_append, List.getElem?_cons_zero, List.getElem?_cons_succ, List.set_cons_zero, List.set_cons_succ, Option.join_some, Option.join_none, Option.bind_some, Option.map_some, thenR_nx, thenR_rt, asI_int, asB_bool, gAdd_int, gSub_int, gMul_int, gCmpI_int, zBig, Nat.reduceAdd, Nat.reduceLeDiff, Nat.reduceSub, ite_true, ite_false, Bool.false_eq_true, decide_true, decide_false, gIs_none, decide_eq_true_eq, isD_tuple, isD_str, isD_int, isD_bool, isTuple_tuple, Bool.not_true, Bool.not_false, asTup_tup, asLst_lst, asRng_int, asZip_tup, wipeD, gNe, gEq, shaped_int, shaped_bool, shaped_none, and_self, condB_bool, sAsgG, setAll, gMulT_tup, x67, setT2]
      all_goals rfl
    cases e9
    refine ⟨_, .nx [some (encW w), some (encS s), some (.int i), none, none, none, none, none, none, some (encO s.ready), none, some (.int w.top), some (.int w.drain), some (.int w.on), some (.int w.off), some (.int w.starts), some (.int w.step), some (.int s.lv), some (encI s.past), some (encI s.runs), some (encI s.rests)], v2, ?_, fun ρ' e9 σ3 H3 s3 v3 => ?_, fun d e9 => (nomatch e9)⟩
    · simp -implicitDefEqProofs only [startD, sSeq, sSet, sRet, sIf, sSkip, sNever, sAsgG, sPar, fTup, f2, fSl, fPart, fNoPart, fVar, fC, fCons, fNil, fIf, fT, fCall, fIsa, fOrT, fAndT, fNotT, fAnd, fLc, fRng, fZip, fItemsT, fItemsL, List.map_cons, List.map_nil, List.length_cons, List.length_nil, List.replicate, List.cons_append, List.nil_append, List.getElem?_cons_zero, List.getElem?_cons_succ, List.set_cons_zero, List.set_cons_succ, Option.join_some, Option.join_none, Option.bind_some, Option.map_some, thenR_nx, thenR_rt, asI_int, asB_bool, gAdd_int, gSub_int, gMul_int, gCmpI_int, zBig, Nat.reduceAdd, Nat.reduceLeDiff, Nat.reduceSub, ite_true, ite_false, Bool.false_eq_true, decide_true, decide_false, gIs_none, decide_eq_true_eq, isD_tuple, isD_str, isD_int, isD_bool, isTuple_tuple, Bool.not_true, Bool.not_false, asTup_tup, asLst_lst, asRng_int, asZip_tup, wipeD, gNe, gEq, shaped_int, shaped_bool, shaped_none, and_self, condB_bool, sAsgG, setAll, gMulT_tup, setT5S]
      all_goals rfl
    cases e9
    refine ⟨_, .nx [some (encW w), some (encS s), some (.int i), some (.int (hdP w s)), none, none, none, none, none, some (encO s.ready), none, some (.int w.top), some (.int w.drain), some (.int w.on), some (.int w.off), some (.int w.starts), some (.int w.step), some (.int s.lv), some (encI s.past), some (encI s.runs), some (encI s.rests)], v3, ?_, fun ρ' e9 σ4 H4 s4 v4 => ?_, fun d e9 => (nomatch e9)⟩
    · simp -implicitDefEqProofs only [startD, sSeq, sSet, sRet, sIf, sSkip, sNever, sAsgG, sPar, fTup, f2, fSl, fPart, fNoPart, fVar, fC, fCons, fNil, fIf, fT, fCall, fIsa, fOrT, fAndT, fNotT, fAnd, fLc, fRng, fZip, fItemsT, fItemsL, List.map_cons, List.map_nil, List.length_cons, List.length_nil, List.replicate, List.cons_append, List.nil_append, List.getElem?_cons_zero, List.getElem?_cons_succ, List.set_cons_zero, List.set_cons_succ, Option.join_some, Option.join_none, Option.bind_some, Option.map_some, thenR_nx, thenR_rt, asI_int, asB_bool, gAdd_int, gSub_int, gMul_int, gCmpI_int, zBig, Nat.reduceAdd, Nat.reduceLeDiff, Nat.reduceSub, ite_true, ite_false, Bool.false_eq_true, decide_true, decide_false, gIs_none, decide_eq_true_eq, isD_tuple, isD_str, isD_int, isD_bool, isTuple_tuple, Bool.not_true, Bool.not_false, asTup_tup, asLst_lst, asRng_int, asZip_tup, wipeD, gNe, gEq, shaped_int, shaped_bool, shaped_none, and_self, condB_bool, sAsgG, setAll, gMulT_tup, xP, xP0]
      all_goals rfl
    cases e9
    refine ⟨_, .nx [some (encW w), some (encS s), some (.int i), some (.int (seenS w s.lv s.past)), none, none, none, none, none, some (encO s.ready), none, some (.int w.top), some (.int w.drain), some (.int w.on), some (.int w.off), some (.int w.starts), some (.int w.step), some (.int s.lv), some (encI s.past), some (encI s.runs), some (encI s.rests)], v4, ?_, fun ρ' e9 σ5 H5 s5 v5 => ?_, fun d e9 => (nomatch e9)⟩
    · simp -implicitDefEqProofs only [startD, sSeq, sSet, sRet, sIf, sSkip, sNever, sAsgG, sPar, fTup, f2, fSl, fPart, fNoPart, fVar, fC, fCons, fNil, fIf, fT, fCall, fIsa, fOrT, fAndT, fNotT, fAnd, fLc, fRng, fZip, fItemsT, fItemsL, List.map_cons, List.map_nil, List.length_cons, List.length_nil, List.replicate, List.cons_append, List.nil_append, List.getElem?_cons_zero, List.getElem?_cons_succ, List.set_cons_zero, List.set_cons_succ, Option.join_some, Option.join_none, Option.bind_some, Option.map_some, thenR_nx, thenR_rt, asI_int, asB_bool, gAdd_int, gSub_int, gMul_int, gCmpI_int, zBig, Nat.reduceAdd, Nat.reduceLeDiff, Nat.reduceSub, ite_true, ite_false, Bool.false_eq_true, decide_true, decide_false, gIs_none, decide_eq_true_eq, isD_tuple, isD_str, isD_int, isD_bool, isTuple_tuple, Bool.not_true, Bool.not_false, asTup_tup, asLst_lst, asRng_int, asZip_tup, wipeD, gNe, gEq, shaped_int, shaped_bool, shaped_none, and_self, condB_bool, sAsgG, setAll, gMulT_tup, gInt1_int, gMod_int, x0]
      all_goals rfl
    cases e9
    refine ⟨_, .nx [some (encW w), some (encS s), some (.int i), some (.int (seenS w s.lv s.past)), some (.int (startedS w s)), none, none, none, none, some (encO s.ready), none, some (.int w.top), some (.int w.drain), some (.int w.on), some (.int w.off), some (.int w.starts), some (.int w.step), some (.int s.lv), some (encI s.past), some (encI s.runs), some (encI s.rests)], v5, ?_, fun ρ' e9 σ6 H6 s6 v6 => ?_, fun d e9 => (nomatch e9)⟩
    · have e5 : startedS w s = if seenS w s.lv s.past < w.on then 0 else (match s.ready with | none => w.starts | some r => if r < w.starts then r else w.starts) := by
        unfold startedS
        by_cases hc : seenS w s.lv s.past < w.on
        · rw [if_pos hc, if_neg (by omega)]
        · rw [if_neg hc, if_pos (by omega)]
          try (cases s.ready <;> rfl)
      rw [e5]
      by_cases hc : seenS w s.lv s.past < w.on
      · simp -implicitDefEqProofs only [startD, sSeq, sSet, sRet, sIf, sSkip, sNever, sAsgG, sPar, fTup, f2, fSl, fPart, fNoPart, fVar, fC, fCons, fNil, fIf, fT, fCall, fIsa, fOrT, fAndT, fNotT, fAnd, fLc, fRng, fZip, fItemsT, fItemsL, List.map_cons, List.map_nil, List.length_cons, List.length_nil, List.replicate, List.cons_append, List.nil_append, List.getElem?_cons_zero, List.getElem?_cons_succ, List.set_cons_zero, List.set_cons_succ, Option.join_some, Option.join_none, Option.bind_some, Option.map_some, thenR_nx, thenR_rt, asI_int, asB_bool, gAdd_int, gSub_int, gMul_int, gCmpI_int, zBig, Nat.reduceAdd, Nat.reduceLeDiff, Nat.reduceSub, ite_true, ite_false, Bool.false_eq_true, decide_true, decide_false, gIs_none, decide_eq_true_eq, isD_tuple, isD_str, isD_int, isD_bool, isTuple_tuple, Bool.not_true, Bool.not_false, asTup_tup, asLst_lst, asRng_int, asZip_tup, wipeD, gNe, gEq, shaped_int, shaped_bool, shaped_none, and_self, condB_bool, sAsgG, setAll, gMulT_tup, decide_eq_true hc, hc]
      · cases hrd : s.ready with
        | none => simp -implicitDefEqProofs only [startD, sSeq, sSet, sRet, sIf, sSkip, sNever, sAsgG, sPar, fTup, f2, fSl, fPart, fNoPart, fVar, fC, fCons, fNil, fIf, fT, fCall, fIsa, fOrT, fAndT, fNotT, fAnd, fLc, fRng, fZip, fItemsT, fItemsL, List.map_cons, List.map_nil, List.length_cons, List.length_nil, List.replicate, List.cons_append, List.nil_append, List.getElem?_cons_zero, List.getElem?_cons_succ, List.set_cons_zero, List.set_cons_succ, Option.join_some, Option.join_none, Option.bind_some, Option.map_some, thenR_nx, thenR_rt, asI_int, asB_bool, gAdd_int, gSub_int, gMul_int, gCmpI_int, zBig, Nat.reduceAdd, Nat.reduceLeDiff, Nat.reduceSub, ite_true, ite_false, Bool.false_eq_true, decide_true, decide_false, gIs_none, decide_eq_true_eq, isD_tuple, isD_str, isD_int, isD_bool, isTuple_tuple, Bool.not_true, Bool.not_false, asTup_tup, asLst_lst, asRng_int, asZip_tup, wipeD, gNe, gEq, shaped_int, shaped_bool, shaped_none, and_self, condB_bool, sAsgG, setAll, gMulT_tup, decide_eq_false hc, hc, encO, isNoneD_none]
        | some r => simp -implicitDefEqProofs only [startD, sSeq, sSet, sRet, sIf, sSkip, sNever, sAsgG, sPar, fTup, f2, fSl, fPart, fNoPart, fVar, fC, fCons, fNil, fIf, fT, fCall, fIsa, fOrT, fAndT, fNotT, fAnd, fLc, fRng, fZip, fItemsT, fItemsL, List.map_cons, List.map_nil, List.length_cons, List.length_nil, List.replicate, List.cons_append, List.nil_append, List.getElem?_cons_zero, List.getElem?_cons_succ, List.set_cons_zero, List.set_cons_succ, Option.join_some, Option.join_none, Option.bind_some, Option.map_some, thenR_nx, thenR_rt, asI_int, asB_bool, gAdd_int, gSub_int, gMul_int, gCmpI_int, zBig, Nat.reduceAdd, Nat.reduceLeDiff, Nat.reduceSub, ite_true, ite_false, Bool.false_eq_true, decide_true, decide_false, gIs_none, decide_eq_true_eq, isD_tuple, isD_str, isD_int, isD_bool, isTuple_tuple, Bool.not_true, Bool.not_false, asTup_tup, asLst_lst, asRng_int, asZip_tup, wipeD, gNe, gEq, shaped_int, shaped_bool, shaped_none, and_self, condB_bool, sAsgG, setAll, gMulT_tup, decide_eq_false hc, hc, encO, isNoneD_int, g2I_int]
    cases e9
    refine ⟨_, .nx [some (encW w), some (encS s), some (.int i), some (.int (seenS w s.lv s.past)), some (.int (startedS w s)), some (.int (stoppedS w s)), none, none, none, some (encO s.ready), none, some (.int w.top), some (.int w.drain), some (.int w.on), some (.int w.off), some (.int w.starts), some (.int w.step), some (.int s.lv), some (encI s.past), some (encI s.runs), some (encI s.rests)], v6, ?_, fun ρ' e9 σ7 H7 s7 v7 => ?_, fun d e9 => (nomatch e9)⟩
    · have e6 : stoppedS w s = if seenS w s.lv s.past ≤ w.off then s.runs.getLastD 0 else 0 := by
        unfold stoppedS
        have := hw.off
        by_cases hc : seenS w s.lv s.past ≤ w.off
        · rw [if_pos hc, if_neg (by omega)]
        · rw [if_neg hc]
          split <;> rfl
      rw [e6]
      by_cases hc : seenS w s.lv s.past ≤ w.off
      · simp -implicitDefEqProofs only [startD, sSeq, sSet, sRet, sIf, sSkip, sNever, sAsgG, sPar, fTup, f2, fSl, fPart, fNoPart, fVar, fC, fCons, fNil, fIf, fT, fCall, fIsa, fOrT, fAndT, fNotT, fAnd, fLc, fRng, fZip, fItemsT, fItemsL, List.map_cons, List.map_nil, List.length_cons, List.length_nil, List.replicate, List.cons_append, List.nil_append, List.getElem?_cons_zero, List.getElem?_cons_succ, List.set_cons_zero, List.set_cons_succ, Option.join_some, Option.join_none, Option.bind_some, Option.map_some, thenR_nx, thenR_rt, asI_int, asB_bool, gAdd_int, gSub_int, gMul_int, gCmpI_int, zBig, Nat.reduceAdd, Nat.reduceLeDiff, Nat.reduceSub, ite_true, ite_false, Bool.false_eq_true, decide_true, decide_false, gIs_none, decide_eq_true_eq, isD_tuple, isD_str, isD_int, isD_bool, isTuple_tuple, Bool.not_true, Bool.not_false, asTup_tup, asLst_lst, asRng_int, asZip_tup, wipeD, gNe, gEq, shaped_int, shaped_bool, shaped_none, and_self, condB_bool, sAsgG, setAll, gMulT_tup, decide_eq_true hc, hc, xL]
      · simp -implicitDefEqProofs only [startD, sSeq, sSet, sRet, sIf, sSkip, sNever, sAsgG, sPar, fTup, f2, fSl, fPart, fNoPart, fVar, fC, fCons, fNil, fIf, fT, fCall, fIsa, fOrT, fAndT, fNotT, fAnd, fLc, fRng, fZip, fItemsT, fItemsL, List.map_cons, List.map_nil, List.length_cons, List.length_nil, List.replicate, List.cons_append, List.nil_append, List.getElem?_cons_zero, List.getElem?_cons_succ, List.set_cons_zero, List.set_cons_succ, Option.join_some, Option.join_none, Option.bind_some, Option.map_some, thenR_nx, thenR_rt, asI_int, asB_bool, gAdd_int, gSub_int, gMul_int, gCmpI_int, zBig, Nat.reduceAdd, Nat.reduceLeDiff, Nat.reduceSub, ite_true, ite_false, Bool.false_eq_true, decide_true, decide_false, gIs_none, decide_eq_true_eq, isD_tuple, isD_str, isD_int, isD_bool, isTuple_tuple, Bool.not_true, Bool.not_false, asTup_tup, asLst_lst, asRng_int, asZip_tup, wipeD, gNe, gEq, shaped_int, shaped_bool, shaped_none, and_self, condB_bool, sAsgG, setAll, gMulT_tup, decide_eq_false hc, hc]
    cases e9
    generalize ha : startedS w s = a at v7
    generalize hb : stoppedS w s = b at v7
    obtain ⟨va, ga, da⟩ := v7.2 4 (.int a) rfl
    obtain rfl := dp_int da
    obtain ⟨vr, gr, dr⟩ := v7.2 19 (encI s.runs) rfl
    obtain ⟨pr, xr, rfl, hTr, dxr⟩ := dp_tup dr
    have hxr : xr = s.runs.map V.int := dxr.ints
    subst hxr
    have l7 : σ7.length = 21 := v7.1
    have lrun : s.runs.length ≤ 5 := by have h1 := hs.runs; have h2 := hw.run; omega
    have lrest : s.rests.length ≤ 4 := by have h1 := hs.rests; have h2 := hw.rest; omega
    -- older = [fresh] + list(runs)
    refine ⟨_, ga, (by show 1 ≤ sizeLine; decide), fun l1 hl1 => ?_⟩
    have t1 : Same H7 (upd H7 l1 (.lst [.int a])) := Same.new hl1
    refine ⟨_, gr, pr, _, rfl, .inr (same_t t1 hTr), fun l2 hl2 => ?_⟩
    have t2 : Same (upd H7 l1 (.lst [.int a])) (upd (upd H7 l1 (.lst [.int a])) l2 (.lst (s.runs.map V.int))) := Same.new hl2
    refine ⟨l1, l2, _, _, rfl, rfl, t2 _ _ upd_same, upd_same, (by simp; rw [sizeLine_eq]; omega), fun l3 hl3 => ?_⟩
    have t3 : Same H7 (upd (upd (upd H7 l1 (.lst [.int a])) l2 (.lst (s.runs.map V.int))) l3 (.lst ([.int a] ++ s.runs.map V.int))) := (t1.trans t2).trans (Same.new hl3)
    have hl3' : (upd (upd (upd H7 l1 (.lst [.int a])) l2 (.lst (s.runs.map V.int))) l3 (.lst ([.int a] ++ s.runs.map V.int))) l3 = some (.lst ((a :: s.runs).map V.int)) := upd_same
    have l3H : H7 l3 = none := (t1.trans t2).free hl3
    generalize upd (upd (upd H7 l1 (.lst [.int a])) l2 (.lst (s.runs.map V.int))) l3 (.lst ([.int a] ++ s.runs.map V.int)) = H8 at t3 hl3'
    have g6 : (σ7.set 6 (some (V.ref l3)))[6]? = some (some (.ref l3)) := List.getElem?_set_self (by rw [l7]; decide)
    -- last = older.pop()
    have hlast : ((a :: s.runs).map V.int)[((a :: s.runs).map V.int).length - 1]? = some (.int (s.runs.getLastD 0)) := by
      rw [List.length_map, List.getElem?_map]
      have : (a :: s.runs)[(a :: s.runs).length - 1]? = some (s.runs.getLastD 0) := by
        rw [List.length_cons, Nat.add_sub_cancel]
        cases hr0 : s.runs with
        | nil => exact absurd hr0 hrn
        | cons x r =>
          rw [List.length_cons, List.getElem?_cons_succ, List.getLastD_eq_getLast?, List.getLast?_eq_getElem?]
          rw [List.length_cons, Nat.add_sub_cancel, List.getElem?_eq_getElem (by simp)]
          rfl
      rw [this]
      rfl
    refine ⟨_, g6, .inl ⟨rfl, _, SqL.of hl3'⟩, l3, _, _, rfl, rfl, hl3', hlast, ?_⟩
    have ns8 : NoSeq (H8 l3) := by rw [hl3']; exact noSeq_lst
    have v8 : EnvD K H8 σ7 [some (encW w), some (encS s), some (.int i), some (.int (seenS w s.lv s.past)), some (.int (a)), some (.int (b)), none, none, none, some (encO s.ready), none, some (.int w.top), some (.int w.drain), some (.int w.on), some (.int w.off), some (.int w.starts), some (.int w.step), some (.int s.lv), some (encI s.past), some (encI s.runs), some (encI s.rests)] := v7.same t3
    have f9 : FrD K H8 (upd H8 l3 (.lst (((a :: s.runs).map V.int).dropLast))) := frd_upd ns8
    have hd9 : (upd H8 l3 (.lst (((a :: s.runs).map V.int).dropLast))) l3 = some (.lst (((a :: s.runs).dropLast).map V.int)) := by rw [upd_same, List.map_dropLast]
    have v9 := env_frd v8 f9 (by simp only [noLE, List.all_cons, List.all_nil, noL_S, noL_I, noL_O, Bool.and_true, Bool.true_and]; rfl)
    have t9 : Same H7 (upd H8 l3 (.lst (((a :: s.runs).map V.int).dropLast))) := t3.mut l3H
    generalize upd H8 l3 (.lst (((a :: s.runs).map V.int).dropLast)) = H9 at f9 hd9 v9 t9
    have v9b : EnvD K H9 ((σ7.set 6 (some (.ref l3))).set 7 (some (.int (s.runs.getLastD 0)))) [some (encW w), some (encS s), some (.int i), some (.int (seenS w s.lv s.past)), some (.int a), some (.int b), none, some (.int (s.runs.getLastD 0)), none, some (encO s.ready), none, some (.int w.top), some (.int w.drain), some (.int w.on), some (.int w.off), some (.int w.starts), some (.int w.step), some (.int s.lv), some (encI s.past), some (encI s.runs), some (encI s.rests)] := (env_setx v9 (j := 6) rfl).set (j := 7) (.int _)
    have g6b : ((σ7.set 6 (some (V.ref l3))).set 7 (some (.int (s.runs.getLastD 0))))[6]? = some (some (.ref l3)) := by rw [List.getElem?_set_ne (by decide)]; exact g6
    have v10 : EnvD K H9 ((σ7.set 6 (some (.ref l3))).set 7 (some (.int (s.runs.getLastD 0)))) [some (encW w), some (encS s), some (.int i), some (.int (seenS w s.lv s.past)), some (.int a), some (.int b), some (.list (((a :: s.runs).dropLast).map .int)), some (.int (s.runs.getLastD 0)), none, some (encO s.ready), none, some (.int w.top), some (.int w.drain), some (.int w.on), some (.int w.off), some (.int w.starts), some (.int w.step), some (.int s.lv), some (encI s.past), some (encI s.runs), some (encI s.rests)] := env_at (j := 6) v9b g6b (.lst (SqL.of hd9) (DpAll.of_ints _))
    -- older[-1] = older[-1] + last - gone
    have ldl : ((a :: s.runs).dropLast).length = s.runs.length := by simp
    have hne2 : (a :: s.runs).dropLast ≠ [] := fun z => by rw [z] at ldl; exact hrn (List.eq_nil_of_length_eq_zero ldl.symm)
    have hl0 : 0 < s.runs.length := List.length_pos_iff.mpr hrn
    have xD : gIx (.list (((a :: s.runs).dropLast).map .int)) (.int (-1)) = some (.int ((a :: s.runs).getD (s.runs.length - 1) 0)) := by
      rw [gIx_lst, show (-1 : Int) = -(((0 : Nat) : Int) + 1) from rfl, atI_neg _ 0 (by rw [List.length_map, ldl]; omega), List.length_map, ldl, Nat.sub_zero, List.getElem?_map, List.dropLast_eq_take, List.getElem?_take, List.length_cons, Nat.add_sub_cancel, if_pos (by omega), List.getElem?_eq_getElem (by simp; omega), List.getD_eq_getElem?_getD, List.getElem?_eq_getElem (by simp; omega)]
      rfl
    refine ⟨_, .int ((a :: s.runs).getD (s.runs.length - 1) 0 + s.runs.getLastD 0 - b), v10, ?_, fun vv H10 s10 dv => ?_⟩
    · simp -implicitDefEqProofs only [startD, sSeq, sSet, sRet, sIf, sSkip, sNever, sAsgG, sPar, fTup, f2, fSl, fPart, fNoPart, fVar, fC, fCons, fNil, fIf, fT, fCall, fIsa, fOrT, fAndT, fNotT, fAnd, fLc, fRng, fZip, fItemsT, fItemsL, List.map_cons, List.map_nil, List.length_cons, List.length_nil, List.replicate, List.cons_append, List.nil_append, List.getElem?_cons_zero, List.getElem?_cons_succ, List.set_cons_zero, List.set_cons_succ, Option.join_some, Option.join_none, Option.bind_some, Option.map_some, thenR_nx, thenR_rt, asI_int, asB_bool, gAdd_int, gSub_int, gMul_int, gCmpI_int, zBig, Nat.reduceAdd, Nat.reduceLeDiff, Nat.reduceSub, ite_true, ite_false, Bool.false_eq_true, decide_true, decide_false, gIs_none, decide_eq_true_eq, isD_tuple, isD_str, isD_int, isD_bool, isTuple_tuple, Bool.not_true, Bool.not_false, asTup_tup, asLst_lst, asRng_int, asZip_tup, wipeD, gNe, gEq, shaped_int, shaped_bool, shaped_none, and_self, condB_bool, sAsgG, setAll, gMulT_tup, xD]
    obtain rfl := dp_int dv
    have hd10 := s10 _ _ hd9
    refine ⟨_, g6b, 1, rfl, l3, _, -1, s.runs.length - 1, rfl, rfl, hd10, ?_, ?_⟩
    · rw [List.length_map, ldl]
      unfold ixN
      rw [if_neg (by decide), if_pos (by omega)]
      congr 1
      omega
    have ns10 : NoSeq (H10 l3) := by rw [hd10]; exact noSeq_lst
    have hset : (((a :: s.runs).dropLast).map V.int).set (s.runs.length - 1) (.int ((a :: s.runs).getD (s.runs.length - 1) 0 + s.runs.getLastD 0 - b)) = (agedOn s.runs a b).map V.int := by
      rw [← List.map_set, on_set _ _ _ hrn]
      rfl
    rw [hset]
    have v11a := env_frd (v9b.same s10) (frd_upd (K := K) (o := .lst ((agedOn s.runs a b).map V.int)) ns10) (by simp only [noLE, List.all_cons, List.all_nil, noL_S, noL_I, noL_O, Bool.and_true, Bool.true_and]; rfl)
    have t11 : Same H7 (upd H10 l3 (.lst ((agedOn s.runs a b).map V.int))) := (t9.trans s10).mut l3H
    have v11 : EnvD K (upd H10 l3 (.lst ((agedOn s.runs a b).map V.int))) ((σ7.set 6 (some (.ref l3))).set 7 (some (.int (s.runs.getLastD 0)))) [some (encW w), some (encS s), some (.int i), some (.int (seenS w s.lv s.past)), some (.int a), some (.int b), some (.list ((agedOn s.runs a b).map .int)), some (.int (s.runs.getLastD 0)), none, some (encO s.ready), none, some (.int w.top), some (.int w.drain), some (.int w.on), some (.int w.off), some (.int w.starts), some (.int w.step), some (.int s.lv), some (encI s.past), some (encI s.runs), some (encI s.rests)] := env_at (j := 6) v11a g6b (.lst (SqL.of upd_same) (DpAll.of_ints _))
    generalize upd H10 l3 (.lst ((agedOn s.runs a b).map V.int)) = H11 at t11 v11 v11a
    generalize hσ : (σ7.set 6 (some (V.ref l3))).set 7 (some (.int (s.runs.getLastD 0))) = σ11 at v11 v11a
    -- rows = [gone] + list(rests)
    obtain ⟨vb, gb, db⟩ := v11.2 5 (.int b) rfl
    obtain rfl := dp_int db
    obtain ⟨vr2, gr2, dr2⟩ := v11.2 20 (encI s.rests) rfl
    obtain ⟨pr2, xr2, rfl, hTr2, dxr2⟩ := dp_tup dr2
    have hxr2 : xr2 = s.rests.map V.int := dxr2.ints
    subst hxr2
    refine ⟨_, gb, (by show 1 ≤ sizeLine; decide), fun l4 hl4 => ?_⟩
    have t4 : Same H11 (upd H11 l4 (.lst [.int b])) := Same.new hl4
    refine ⟨_, gr2, pr2, _, rfl, .inr (same_t t4 hTr2), fun l5 hl5 => ?_⟩
    have t5 : Same (upd H11 l4 (.lst [.int b])) (upd (upd H11 l4 (.lst [.int b])) l5 (.lst (s.rests.map V.int))) := Same.new hl5
    refine ⟨l4, l5, _, _, rfl, rfl, t5 _ _ upd_same, upd_same, (by simp; rw [sizeLine_eq]; omega), fun l6 hl6 => ?_⟩
    have t6 := (t4.trans t5).trans (Same.new (o := .lst ([.int b] ++ s.rests.map V.int)) hl6)
    have v12 : EnvD K (upd (upd (upd H11 l4 (.lst [.int b])) l5 (.lst (s.rests.map V.int))) l6 (.lst ([.int b] ++ s.rests.map V.int))) (σ11.set 8 (some (.ref l6))) [some (encW w), some (encS s), some (.int i), some (.int (seenS w s.lv s.past)), some (.int a), some (.int b), some (.list ((agedOn s.runs a b).map .int)), some (.int (s.runs.getLastD 0)), some (.list ((b :: s.rests).map .int)), some (encO s.ready), none, some (.int w.top), some (.int w.drain), some (.int w.on), some (.int w.off), some (.int w.starts), some (.int w.step), some (.int s.lv), some (encI s.past), some (encI s.runs), some (encI s.rests)] := (v11.same t6).set (j := 8) (.lst (SqL.of upd_same) (DpAll.of_ints (b :: s.rests)))
    have t12 := t11.trans t6
    generalize upd (upd (upd H11 l4 (.lst [.int b])) l5 (.lst (s.rests.map V.int))) l6 (.lst ([.int b] ++ s.rests.map V.int)) = H12 at v12 t12
    have hbt : beatS w s i = ledS w s a b i := by unfold beatS; rw [ha, hb]
    rw [hbt] at q
    have d1 : -(2 ^ 64) < w.drain ∧ w.drain < 2 ^ 64 := by have := hw.drain; omega
    have xB : gIx (.list ((b :: s.rests).map .int)) (.int (-1)) = some (.int ((b :: s.rests).getLastD 0)) := by
      rw [gIx_lst, atI_m1 _ (.int 0) (by simp), getLastD_map _ (by simp)]
    have xS : gSum [.list ((agedOn s.runs a b).map .int)] = some (.int (agedOn s.runs a b).sum) := by
      rw [gSum_lst, intsOf_map]
      rfl
    have xC : gSl (.list ((b :: s.rests).map .int)) none (some (-1)) = some (.list ((agedOff s.rests b).map .int)) := by
      rw [gSl_lst]
      show some (PyData.list (cutP ((b :: s.rests).map PyData.int) none (some (-((1 : Nat) : Int))))) = _
      rw [cutP_neg _ 1 (by simp) (by decide), List.length_map, List.length_cons, Nat.add_sub_cancel]
      unfold agedOff
      rw [List.map_take]
    have xQ : gSl (encI (s.past ++ [s.lv])) (some 1) none = some (encI (pastS w s)) := by
      rw [past_cut]
      congr 2
      have := hs.past
      have := hw.lag
      unfold pastS
      split
      · rw [List.drop_append_of_le_length (by omega)]
      · rw [List.eq_nil_of_length_eq_zero (l := s.past) (by omega)]
        rfl
    rw [List.map_cons] at xB xC
    have sA : Same H H12 := ((((((s1.trans s2).trans s3).trans s4).trans s5).trans s6).trans s7).trans t12
    have elv : s.lv + i - w.drain * (agedOn s.runs a b).sum = lvS w s a b i := rfl
    refine ⟨_, .nx [some (encW w), some (encS s), some (.int i), some (.int (seenS w s.lv s.past)), some (.int a), some (.int b), some (.list ((agedOn s.runs a b).map .int)), some (.int (s.runs.getLastD 0)), some (.list ((b :: s.rests).map .int)), some (encO (agedRdy s.ready s.rests a b)), none, some (.int w.top), some (.int w.drain), some (.int w.on), some (.int w.off), some (.int w.starts), some (.int w.step), some (.int s.lv), some (encI s.past), some (encI s.runs), some (encI s.rests)], v12, ?_, fun ρ' e9 σ13 H13 s13 v13 => ?_, fun d e9 => (nomatch e9)⟩
    · cases hrd : s.ready with
      | none => simp -implicitDefEqProofs only [startD, sSeq, sSet, sRet, sIf, sSkip, sNever, sAsgG, sPar, fTup, f2, fSl, fPart, fNoPart, fVar, fC, fCons, fNil, fIf, fT, fCall, fIsa, fOrT, fAndT, fNotT, fAnd, fLc, fRng, fZip, fItemsT, fItemsL, List.map_cons, List.map_nil, List.length_cons, List.length_nil, List.replicate, List.cons_append, List.nil_append, List.getElem?_cons_zero, List.getElem?_cons_succ, List.set_cons_zero, List.set_cons_succ, Option.join_some, Option.join_none, Option.bind_some, Option.map_some, thenR_nx, thenR_rt, asI_int, asB_bool, gAdd_int, gSub_int, gMul_int, gCmpI_int, zBig, Nat.reduceAdd, Nat.reduceLeDiff, Nat.reduceSub, ite_true, ite_false, Bool.false_eq_true, decide_true, decide_false, gIs_none, decide_eq_true_eq, isD_tuple, isD_str, isD_int, isD_bool, isTuple_tuple, Bool.not_true, Bool.not_false, asTup_tup, asLst_lst, asRng_int, asZip_tup, wipeD, gNe, gEq, shaped_int, shaped_bool, shaped_none, and_self, condB_bool, sAsgG, setAll, gMulT_tup, encO, isNoneD_none, agedRdy, Option.map_none]
      | some r => simp -implicitDefEqProofs only [startD, sSeq, sSet, sRet, sIf, sSkip, sNever, sAsgG, sPar, fTup, f2, fSl, fPart, fNoPart, fVar, fC, fCons, fNil, fIf, fT, fCall, fIsa, fOrT, fAndT, fNotT, fAnd, fLc, fRng, fZip, fItemsT, fItemsL, List.map_cons, List.map_nil, List.length_cons, List.length_nil, List.replicate, List.cons_append, List.nil_append, List.getElem?_cons_zero, List.getElem?_cons_succ, List.set_cons_zero, List.set_cons_succ, Option.join_some, Option.join_none, Option.bind_some, Option.map_some, thenR_nx, thenR_rt, asI_int, asB_bool, gAdd_int, gSub_int, gMul_int, gCmpI_int, zBig, Nat.reduceAdd, Nat.reduceLeDiff, Nat.reduceSub, ite_true, ite_false, Bool.false_eq_true, decide_true, decide_false, gIs_none, decide_eq_true_eq, isD_tuple, isD_str, isD_int, isD_bool, isTuple_tuple, Bool.not_true, Bool.not_false, asTup_tup, asLst_lst, asRng_int, asZip_tup, wipeD, gNe, gEq, shaped_int, shaped_bool, shaped_none, and_self, condB_bool, sAsgG, setAll, gMulT_tup, encO, isNoneD_int, agedRdy, xB]
    cases e9
    refine ⟨_, .nx [some (encW w), some (encS s), some (.int i), some (.int (seenS w s.lv s.past)), some (.int a), some (.int b), some (.list ((agedOn s.runs a b).map .int)), some (.int (s.runs.getLastD 0)), some (.list ((b :: s.rests).map .int)), some (encO (agedRdy s.ready s.rests a b)), some (.int (lvS w s a b i)), some (.int w.top), some (.int w.drain), some (.int w.on), some (.int w.off), some (.int w.starts), some (.int w.step), some (.int s.lv), some (encI s.past), some (encI s.runs), some (encI s.rests)], v13, ?_, fun ρ' e9 σ14 H14 s14 v14 => ?_, fun d e9 => (nomatch e9)⟩
    · simp -implicitDefEqProofs only [startD, sSeq, sSet, sRet, sIf, sSkip, sNever, sAsgG, sPar, fTup, f2, fSl, fPart, fNoPart, fVar, fC, fCons, fNil, fIf, fT, fCall, fIsa, fOrT, fAndT, fNotT, fAnd, fLc, fRng, fZip, fItemsT, fItemsL, List.map_cons, List.map_nil, List.length_cons, List.length_nil, List.replicate, List.cons_append, List.nil_append, List.getElem?_cons_zero, List.getElem?_cons_succ, List.set_cons_zero, List.set_cons_succ, Option.join_some, Option.join_none, Option.bind_some, Option.map_some, thenR_nx, thenR_rt, asI_int, asB_bool, gAdd_int, gSub_int, gMul_int, gCmpI_int, zBig, Nat.reduceAdd, Nat.reduceLeDiff, Nat.reduceSub, ite_true, ite_false, Bool.false_eq_true, decide_true, decide_false, gIs_none, decide_eq_true_eq, isD_tuple, isD_str, isD_int, isD_bool, isTuple_tuple, Bool.not_true, Bool.not_false, asTup_tup, asLst_lst, asRng_int, asZip_tup, wipeD, gNe, gEq, shaped_int, shaped_bool, shaped_none, and_self, condB_bool, sAsgG, setAll, gMulT_tup, xS, d1, elv]
    cases e9
    by_cases h1 : w.top < lvS w s a b i
    · have er : ledS w s a b i = .over := by unfold ledS; rw [if_pos h1]
      rw [er] at q
      have hN : decide (lvS w s a b i ≤ w.top) = false := decide_eq_false (by omega)
      have hM : decide (0 ≤ lvS w s a b i) = true := decide_eq_true (by have := hw.top; omega)
      refine ⟨_, .rt (.str "over"), v14, ?_, fun ρ' e9 => (nomatch e9), fun d e9 v H15 s15 dv => ?_⟩
      · simp -implicitDefEqProofs only [startD, sSeq, sSet, sRet, sIf, sSkip, sNever, sAsgG, sPar, fTup, f2, fSl, fPart, fNoPart, fVar, fC, fCons, fNil, fIf, fT, fCall, fIsa, fOrT, fAndT, fNotT, fAnd, fLc, fRng, fZip, fItemsT, fItemsL, List.map_cons, List.map_nil, List.length_cons, List.length_nil, List.replicate, List.cons_append, List.nil_append, List.getElem?_cons_zero, List.getElem?_cons_succ, List.set_cons_zero, List.set_cons_succ, Option.join_some, Option.join_none, Option.bind_some, Option.map_some, thenR_nx, thenR_rt, asI_int, asB_bool, gAdd_int, gSub_int, gMul_int, gCmpI_int, zBig, Nat.reduceAdd, Nat.reduceLeDiff, Nat.reduceSub, ite_true, ite_false, Bool.false_eq_true, decide_true, decide_false, gIs_none, decide_eq_true_eq, isD_tuple, isD_str, isD_int, isD_bool, isTuple_tuple, Bool.not_true, Bool.not_false, asTup_tup, asLst_lst, asRng_int, asZip_tup, wipeD, gNe, gEq, shaped_int, shaped_bool, shaped_none, and_self, condB_bool, sAsgG, setAll, gMulT_tup, h1, fChain, hN, hM, str_over]
      · cases e9
        exact q _ _ (((sA.trans s13).trans s14).trans s15) dv
    · by_cases h2 : lvS w s a b i < 0
      · have er : ledS w s a b i = .dry := by unfold ledS; rw [if_neg h1, if_pos h2]
        rw [er] at q
        have hM : decide (0 ≤ lvS w s a b i) = false := decide_eq_false (by omega)
        refine ⟨_, .rt (.str "dry"), v14, ?_, fun ρ' e9 => (nomatch e9), fun d e9 v H15 s15 dv => ?_⟩
        · simp -implicitDefEqProofs only [startD, sSeq, sSet, sRet, sIf, sSkip, sNever, sAsgG, sPar, fTup, f2, fSl, fPart, fNoPart, fVar, fC, fCons, fNil, fIf, fT, fCall, fIsa, fOrT, fAndT, fNotT, fAnd, fLc, fRng, fZip, fItemsT, fItemsL, List.map_cons, List.map_nil, List.length_cons, List.length_nil, List.replicate, List.cons_append, List.nil_append, List.getElem?_cons_zero, List.getElem?_cons_succ, List.set_cons_zero, List.set_cons_succ, Option.join_some, Option.join_none, Option.bind_some, Option.map_some, thenR_nx, thenR_rt, asI_int, asB_bool, gAdd_int, gSub_int, gMul_int, gCmpI_int, zBig, Nat.reduceAdd, Nat.reduceLeDiff, Nat.reduceSub, ite_true, ite_false, Bool.false_eq_true, decide_true, decide_false, gIs_none, decide_eq_true_eq, isD_tuple, isD_str, isD_int, isD_bool, isTuple_tuple, Bool.not_true, Bool.not_false, asTup_tup, asLst_lst, asRng_int, asZip_tup, wipeD, gNe, gEq, shaped_int, shaped_bool, shaped_none, and_self, condB_bool, sAsgG, setAll, gMulT_tup, h1, fChain, hM, str_dry]
        · cases e9
          exact q _ _ (((sA.trans s13).trans s14).trans s15) dv
      · have er : ledS w s a b i = .st ⟨lvS w s a b i, pastS w s, agedOn s.runs a b, agedOff s.rests b, agedRdy s.ready s.rests a b⟩ := by unfold ledS; rw [if_neg h1, if_neg h2]
        rw [er] at q
        have hN : decide (lvS w s a b i ≤ w.top) = true := decide_eq_true (by omega)
        have hM : decide (0 ≤ lvS w s a b i) = true := decide_eq_true (by omega)
        refine ⟨_, .nx [some (encW w), some (encS s), some (.int i), some (.int (seenS w s.lv s.past)), some (.int a), some (.int b), some (.list ((agedOn s.runs a b).map .int)), some (.int (s.runs.getLastD 0)), some (.list ((b :: s.rests).map .int)), some (encO (agedRdy s.ready s.rests a b)), some (.int (lvS w s a b i)), some (.int w.top), some (.int w.drain), some (.int w.on), some (.int w.off), some (.int w.starts), some (.int w.step), some (.int s.lv), some (encI s.past), some (encI s.runs), some (encI s.rests)], v14, ?_, fun ρ' e9 σ15 H15 s15 v15 => ?_, fun d e9 => (nomatch e9)⟩
        · simp -implicitDefEqProofs only [startD, sSeq, sSet, sRet, sIf, sSkip, sNever, sAsgG, sPar, fTup, f2, fSl, fPart, fNoPart, fVar, fC, fCons, fNil, fIf, fT, fCall, fIsa, fOrT, fAndT, fNotT, fAnd, fLc, fRng, fZip, fItemsT, fItemsL, List.map_cons, List.map_nil, List.length_cons, List.length_nil, List.replicate, List.cons_append, List.nil_append, List.getElem?_cons_zero, List.getElem?_cons_succ, List.set_cons_zero, List.set_cons_succ, Option.join_some, Option.join_none, Option.bind_some, Option.map_some, thenR_nx, thenR_rt, asI_int, asB_bool, gAdd_int, gSub_int, gMul_int, gCmpI_int, zBig, Nat.reduceAdd, Nat.reduceLeDiff, Nat.reduceSub, ite_true, ite_false, Bool.false_eq_true, decide_true, decide_false, gIs_none, decide_eq_true_eq, isD_tuple, isD_str, isD_int, isD_bool, isTuple_tuple, Bool.not_true, Bool.not_false, asTup_tup, asLst_lst, asRng_int, asZip_tup, wipeD, gNe, gEq, shaped_int, shaped_bool, shaped_none, and_self, condB_bool, sAsgG, setAll, gMulT_tup, h1, fChain, hM, hN]
        cases e9
        refine ⟨_, .rt (encS ⟨lvS w s a b i, pastS w s, agedOn s.runs a b, agedOff s.rests b, agedRdy s.ready s.rests a b⟩), v15, ?_, fun ρ' e9 => (nomatch e9), fun d e9 v H16 s16 dv => ?_⟩
        · simp -implicitDefEqProofs only [startD, sSeq, sSet, sRet, sIf, sSkip, sNever, sAsgG, sPar, fTup, f2, fSl, fPart, fNoPart, fVar, fC, fCons, fNil, fIf, fT, fCall, fIsa, fOrT, fAndT, fNotT, fAnd, fLc, fRng, fZip, fItemsT, fItemsL, List.map_cons, List.map_nil, List.length_cons, List.length_nil, List.replicate, List.cons_append, List.nil_append, List.getElem?_cons_zero, List.getElem?_cons_succ, List.set_cons_zero, List.set_cons_succ, Option.join_some, Option.join_none, Option.bind_some, Option.map_some, thenR_nx, thenR_rt, asI_int, asB_bool, gAdd_int, gSub_int, gMul_int, gCmpI_int, zBig, Nat.reduceAdd, Nat.reduceLeDiff, Nat.reduceSub, ite_true, ite_false, Bool.false_eq_true, decide_true, decide_false, gIs_none, decide_eq_true_eq, isD_tuple, isD_str, isD_int, isD_bool, isTuple_tuple, Bool.not_true, Bool.not_false, asTup_tup, asLst_lst, asRng_int, asZip_tup, wipeD, gNe, gEq, shaped_int, shaped_bool, shaped_none, and_self, condB_bool, sAsgG, setAll, gMulT_tup, xC, xP, xQ, gTupOf_lst]
          rfl
        · cases e9
          exact q _ _ ((((sA.trans s13).trans s14).trans s15).trans s16) dv
end
end Pm
set_option maxHeartbeats 4000000
/-! LC: the law's _law_first and _law_start -/
namespace Pm
open PySem PySem.Spec PyProof.Rows L2
section
variable {P : Program} {w : World} {K : PySem.W.Frag} {mg : Str → Option Value} {base : Heap} {H H' : Hp}
theorem fn_law_beat {a : Addr} {fd : FuncData} (F : Fun K "_law_beat" "_law_beat" (top 84) a fd) (T : Tx mg) (hm : mg "_law_beat" = some (.ref a)) : FnD P w K mg base 1 "_law_beat" g_law_beat :=
  fnD_of F hm (fun _ _ _ _ _ _ us hl => match us, hl with | [_, _, _], _ => rfl) (ok_law_beat F T)
theorem sc_lfirst : FnScope ["_law_well_so", "_law_number_so", "_law_level"] ["_law_well_so", "_law_number_so", "_law_level"] (defScope (top 85)) := ⟨rfl, rfl, rfl, by decide +kernel, rfl, by decide +kernel, by decide +kernel⟩
noncomputable def g_law_first : List PyData → Option PyData := mkF (α := Wl × Option Int × Int) (fun x => WOk x.1) (fun x => [encW x.1, encO x.2.1, .int x.2.2]) (fun x => encS (begS x.1 x.2.1 x.2.2))
theorem ok_law_first {a : Addr} {fd : FuncData} (F : Fun K "_law_first" "_law_first" (top 85) a fd) (T : Tx mg) : FnOk P w K mg base CX0 1 a fd ["_law_well_so", "_law_number_so", "_law_level"] (spF g_law_first K) := by
  refine okD F sc_lfirst ?_ ?_ (fun cdv A outer s H E hr =>
    (ss_one (s_ret (d_tup (da_cons (pd 2) (da_cons (d_bin op_mulT ov_mulT (d_tup (da_cons (pd 2) da_nil)) (d_ix (pd 0) d_int)) (da_cons (d_bin op_mulT ov_mulT (d_tup (da_cons d_int da_nil)) (d_ix (pd 0) d_int)) (da_cons (d_bin op_mulT ov_mulT (d_tup (da_cons d_int da_nil)) (d_bin op_sub ov_sub (d_ix (pd 0) d_int) d_int)) (da_cons (pd 1) da_nil)))))))))
  · intro ds d h
    obtain ⟨x, hP, rfl, rfl⟩ := mkF_some h
    rfl
  · intro ds d h
    obtain ⟨x, hP, rfl, rfl⟩ := mkF_some h
    left
    obtain ⟨wl, n, lv⟩ := x
    simp only at hP
    obtain ⟨b1, b2⟩ := hP.lag
    obtain ⟨b3, b4⟩ := hP.run
    obtain ⟨b5, b6⟩ := hP.rest
    have c1 : wl.lag ≤ 1000 := by omega
    have c2 : wl.run ≤ 1000 := by omega
    have c3 : wl.rest - 1 ≤ 1000 := by omega
    have c4 : 0 ≤ wl.run := by omega
    have c5 : 0 ≤ wl.rest - 1 := by omega
    simp -implicitDefEqProofs [ixW8, ixW4, ixW5, b1, c1, c2, c3, c4, c5, b3, b5, rep_map, encS, begS, encI]
theorem fn_law_first {a : Addr} {fd : FuncData} (F : Fun K "_law_first" "_law_first" (top 85) a fd) (T : Tx mg) (hm : mg "_law_first" = some (.ref a)) : FnD P w K mg base 1 "_law_first" g_law_first :=
  fnD_of F hm (fun _ _ _ _ _ _ us hl => match us, hl with | [_, _, _], _ => rfl) (ok_law_first F T)
theorem g_law_first_eq {wl : Wl} (hw : WOk wl) (n : Option Int) (lv : Int) : g_law_first [encW wl, encO n, .int lv] = some (encS (begS wl n lv)) := mkF_eq (a := (wl, n, lv)) inj_WOI hw
theorem sql_new {a l : Addr} {xs : List V} {o : HO} (h : H l = none) (q : SqL K H a xs) : SqL K (L2.upd H l o) a xs := (Same.new h).seq q
theorem merge_kv {a b : Addr} {t s : Int} : mergeK [] [(kC, .ref a), (kG, .ref b), (kT, .int t), (kSm, .int s)] = kvM a b t s := by
  obtain ⟨h1, h2, h3, h4, h5, h6⟩ := kne
  simp [mergeK, putK, kvM, h1, h2, h3, h4, h5, h6]
/-- the law's start -/
def spStart (K : PySem.W.Frag) : Sp := fun vs H Q _ => ∃ (v : V) (xs : List Int), vs = [v] ∧ Dp K H v (.list (xs.map .int)) ∧ xs.length ≤ 63 ∧ ∀ pm H', Same H H' → MOk H' pm 0 → Q (.ref pm) H'
theorem sc_lstart : FnScope ["_law_script", "_law_cells", "_law_cell"] ["_law_script"] (defScope (top 81)) := ⟨rfl, rfl, rfl, by decide +kernel, rfl, by decide +kernel, by decide +kernel⟩
theorem ok_start {f : Addr} {fd : FuncData} (F : Fun K "_law_start" "_law_start" (top 81) f fd) (T : Tx mg) : FnOk P w K mg base CX0 1 f fd ["_law_script"] (spStart K) := by
  refine F.ok sc_lstart (fun vs H Q E h => ?_) (fun cdv A outer s H vs Q E hr h => ?_)
  · obtain ⟨v, xs, rfl, _⟩ := h
    rfl
  · obtain ⟨v, xs, rfl, dv, hn, q⟩ := h
    obtain ⟨a, ys, rfl, ha, da⟩ := dp_lst dv
    have hys : ys = xs.map V.int := da.ints
    subst hys
    refine ⟨_, pss_cons (ps_set (i := 1) sc_lstart.nd rfl (Or.inl rfl) (pe_op op_cat (pe_callTy call_list_of (by rfl) T.b_list bt_list (pa_cons (pv 0) pa_nil)) (pe_lst (pa_cons pe_int pa_nil))))
      (pss_one (ps_ret (pe_disp (pps_cons pe_str (pv 1) (pps_cons pe_str (pe_lc (own := [("_law_cell", 2)]) rfl sc_lstart.nd (pi_list (pv 0)) (blkOk_by (N := ["_law_script", "_law_cells", "_law_cell"]) (sc := defScope (top 81)) (by decide +kernel))
          (fun _ _ _ _ _ => pg_name (i := 2) sc_lstart.nd rfl (Or.inl rfl)) (fun _ _ _ _ _ => pts_one (pt_cmpR op_ge (pv 2) (pe_op op_pow pe_int pe_int) (nomark _))) (fun _ _ _ _ _ => pv 2))
        (pps_cons pe_str pe_int (pps_cons pe_str (pe_callB call_len (by rfl) T.b_len bt_len (pa_cons (pv 1) pa_nil)) pps_nil)))) rfl rfl (by decide) (by decide)))), ?_⟩
    refine ⟨_, rfl, a, _, rfl, .inl ha, fun l1 hl1 => ?_⟩
    have s1 : Same H (upd H l1 (.lst (xs.map V.int))) := Same.new hl1
    refine ⟨(by show 1 ≤ sizeLine; decide), fun l2 hl2 => ?_⟩
    have s2 : Same (upd H l1 (.lst (xs.map V.int))) (upd (upd H l1 (.lst (xs.map V.int))) l2 (.lst [.int 29])) := Same.new hl2
    refine ⟨l1, l2, _, _, rfl, rfl, s2 _ _ upd_same, upd_same, (by simp; rw [sizeLine_eq]; omega), fun l3 hl3 => ?_⟩
    have sA := (s1.trans s2).trans (Same.new (o := .lst (xs.map V.int ++ [.int 29])) hl3)
    have h3 : (upd (upd (upd H l1 (.lst (xs.map V.int))) l2 (.lst [.int 29])) l3 (.lst (xs.map V.int ++ [.int 29]))) l3 = some (.lst ((xs ++ [29]).map V.int)) := by rw [upd_same, List.map_append]; rfl
    generalize upd (upd (upd H l1 (.lst (xs.map V.int))) l2 (.lst [.int 29])) l3 (.lst (xs.map V.int ++ [.int 29])) = H3 at sA h3
    refine fun pm hpm => ?_
    have ne3 : l3 ≠ pm := ne_of_none h3 hpm
    have s4 : Same H3 (upd H3 pm (.dK [])) := Same.new hpm
    refine ⟨_, rfl, _, rfl, a, rfl, ⟨_, (sA.trans s4).seq ha⟩, fun D hD => ?_⟩
    have sqa := (sA.trans s4).seq ha
    have hp4 : upd H3 pm (.dK []) pm = some (.dK []) := upd_same
    have h34 := s4 _ _ h3
    have sAll := sA.trans s4
    generalize upd H3 pm (.dK []) = H4 at hD sqa hp4 h34 s4 sAll
    have neD3 : l3 ≠ D := ne_of_none h34 hD
    have nepD : pm ≠ D := ne_of_none hp4 hD
    let gs : Nat → List Int := fun i => (xs.take i).filter fun x => decide (x ≥ 10 ^ 18)
    refine ⟨fun i m H' => m = xs.length - i ∧ i ≤ xs.length ∧ H' = upd H4 D (.lst ((gs i).map V.int)), ⟨_, rfl, Nat.zero_le _, rfl⟩, ?_⟩
    rintro i m H5 ⟨rfl, hi, rfl⟩
    have sq5 := sql_new (o := .lst ((gs i).map V.int)) hD sqa
    by_cases hlt : i < xs.length
    · refine .inr ⟨⟨_, .int xs[i], sq5, by simp [hlt]⟩, fun H' => i + 1 ≤ xs.length ∧ H' = upd H4 D (.lst ((gs (i + 1)).map V.int)), fun H' h => ⟨_, by omega, rfl, h.1, h.2⟩, fun x H6 y => ?_⟩
      obtain ⟨rfl, y⟩ := y
      have hx := y _ sq5
      rw [List.getElem?_map, List.getElem?_eq_getElem hlt] at hx
      cases hx
      have hg : gs (i + 1) = gs i ++ if xs[i] ≥ 10 ^ 18 then [xs[i]] else [] := by
        show (xs.take (i + 1)).filter _ = _
        rw [List.take_add_one, List.filter_append, List.getElem?_eq_getElem hlt]
        show gs i ++ List.filter _ [xs[i]] = _
        by_cases h : xs[i] ≥ 10 ^ 18
        · rw [if_pos h]; simp only [List.filter, decide_eq_true h]
        · rw [if_neg h]; simp only [List.filter, decide_eq_false h]
      refine ⟨rfl, _, rfl, _, _, rfl, rfl, ⟨by decide, by decide, by decide⟩, ?_⟩
      refine ⟨_, _, rfl, rfl, ?_⟩
      refine ⟨_, rfl, ?_⟩
      by_cases h : xs[i] ≥ 10 ^ 18
      · rw [if_pos h] at hg
        have hdec : decide (xs[i] ≥ (10 : Int) ^ (18 : Int).toNat) = true := decide_eq_true h
        rw [hdec]
        refine iteT ?_
        refine ⟨_, rfl, _, upd_same, ?_, hlt, ?_⟩
        · rw [List.length_map]
          refine Nat.lt_of_le_of_lt (List.length_filter_le _ _) ?_
          rw [List.length_take, sizeLine_eq]
          omega
        · rw [upd_upd, hg, List.map_append]
          rfl
      · rw [if_neg h, List.append_nil] at hg
        have hdec : decide (xs[i] ≥ (10 : Int) ^ (18 : Int).toNat) = false := decide_eq_false h
        rw [hdec]
        refine iteF ?_
        refine ⟨hlt, ?_⟩
        rw [hg]
    · have ei : i = xs.length := by omega
      refine .inl ⟨⟨_, sq5, by simp [ei]⟩, ?_⟩
      have h5D : upd H4 D (.lst ((gs i).map V.int)) D = some (.lst ((gs i).map V.int)) := upd_same
      have s5 : Same H4 (upd H4 D (.lst ((gs i).map V.int))) := Same.new hD
      have h53 := s5 _ _ h34
      have h5p := s5 _ _ hp4
      have sB := sAll.trans s5
      generalize upd H4 D (.lst ((gs i).map V.int)) = H5 at h5D h53 h5p sB
      show tPairs _ _ _ _
      refine ⟨_, rfl, _, _, rfl, .inl ⟨_, SqL.of h53, rfl⟩, ?_⟩
      have hl : (List.map V.int (xs ++ [29])).length = xs.length + 1 := by simp
      rw [hl]
      refine ⟨h5p, [(kC, .ref l3), (kG, .ref D), (kT, .int 0), (kSm, .int ((xs.length + 1 : Nat) : Int))], rfl, (by show 4 ≤ 15; decide), ?_⟩
      rw [merge_kv]
      refine q pm _ (sB.mut (sA.free hpm)) ⟨xs ++ [29], gs i, 0, _, ⟨l3, D, neD3, upd_same, by rw [upd_ne ne3]; exact h53, by rw [upd_ne nepD.symm]; exact h5D⟩, by simp, by simp; omega, ?_, by decide, by decide, by omega, by omega⟩
      refine Nat.le_trans (List.length_filter_le _ _) ?_
      rw [List.length_take]
      omega
end
end Pm
set_option maxHeartbeats 4000000
/-! LD: the law's _law_small -/
namespace Pm
open PySem PySem.Spec PyProof.Rows L2
section
variable {P : Program} {w : World} {K : PySem.W.Frag} {mg : Str → Option Value} {base : Heap} {H H' : Hp}
theorem add_go {i j : Int} {H : Hp} {Q : VK} (h : ∀ k, k = i + j → Q (.int k) H) : rI0 (fun i j => V.int (i + j)) (.int i) (.int j) H Q := ⟨_, _, rfl, rfl, h _ rfl⟩
theorem sub_go {i j : Int} {H : Hp} {Q : VK} (h : ∀ k, k = i - j → Q (.int k) H) : rI0 (fun i j => V.int (i - j)) (.int i) (.int j) H Q := ⟨_, _, rfl, rfl, h _ rfl⟩
/-- a drawn claim -/
def spSmall (K : PySem.W.Frag) : Sp := fun vs H Q _ => ∃ (pm : Addr) (B : Int), vs = [.ref pm] ∧ B + 20 ≤ 100000 ∧ MOk H pm B ∧ ∀ v c H', DrC c → Dp K H' v (encC c) → MOk H' pm (B + 13) → FrM K H H' → Q v H'
theorem sc_lsmall : FnScope ["_law_m", "_law_top_so", "_law_on_so", "_law_well_so", "_law_low", "_law_begin"] ["_law_m"] (defScope (top 83)) := ⟨rfl, rfl, rfl, by decide +kernel, rfl, by decide +kernel, by decide +kernel⟩
theorem ok_small {f : Addr} {fd : FuncData} (F : Fun K "_law_small" "_law_small" (top 83) f fd) (T : Tx mg) (D_next : FnX P w K mg base 1 "_law_next" ["_law_m", "_law_total"] (spNext K)) : FnOk P w K mg base CX0 2 f fd ["_law_m"] (spSmall K) := by
  obtain ⟨aN, fdN, mN, kN, bN, GN⟩ := D_next.ex
  refine F.ok sc_lsmall (fun vs H Q E h => ?_) (fun cdv A outer s H vs Q E hr h => ?_)
  · obtain ⟨pm, B, rfl, _⟩ := h
    rfl
  · obtain ⟨pm, B, rfl, hB, hM, q⟩ := h
    refine ⟨_, pss_cons (ps_set (i := 1) sc_lsmall.nd rfl (Or.inl rfl) (pe_op op_add pe_int (pe_call GN hr rfl mN kN bN .nil pass0 (pa_cons (pv 0) (pa_cons (pe_int) pa_nil)))))
      (pss_cons (ps_set (i := 2) sc_lsmall.nd rfl (Or.inl rfl) (pe_op op_add pe_int (pe_call GN hr rfl mN kN bN .nil pass0 (pa_cons (pv 0) (pa_cons (pv 1) pa_nil)))))
      (pss_cons (ps_set (i := 3) sc_lsmall.nd rfl (Or.inl rfl) (pe_tup (pa_cons (pv 1) (pa_cons (pe_op op_add pe_int (pe_call GN hr rfl mN kN bN .nil pass0 (pa_cons (pv 0) (pa_cons (pe_int) pa_nil)))) (pa_cons (pv 2) (pa_cons (pe_call GN hr rfl mN kN bN .nil pass0 (pa_cons (pv 0) (pa_cons (pv 2) pa_nil))) (pa_cons (pe_op op_add pe_int (pe_call GN hr rfl mN kN bN .nil pass0 (pa_cons (pv 0) (pa_cons (pe_int) pa_nil)))) (pa_cons (pe_op op_add pe_int (pe_call GN hr rfl mN kN bN .nil pass0 (pa_cons (pv 0) (pa_cons (pe_int) pa_nil)))) pa_nil))))))))
      (pss_cons (ps_set (i := 3) sc_lsmall.nd rfl (Or.inl rfl) (pe_op op_addAll (pv 3) (pe_tup (pa_cons (pe_op op_add pe_int (pe_call GN hr rfl mN kN bN .nil pass0 (pa_cons (pv 0) (pa_cons (pe_int) pa_nil)))) (pa_cons (pe_op op_add pe_int (pe_call GN hr rfl mN kN bN .nil pass0 (pa_cons (pv 0) (pa_cons (pe_int) pa_nil)))) (pa_cons (pe_call GN hr rfl mN kN bN .nil pass0 (pa_cons (pv 0) (pa_cons (pe_int) pa_nil))) pa_nil))))))
      (pss_cons (ps_par (i := 4) (j := 5) rfl sc_lsmall.nd rfl rfl (by decide) rfl rfl (pa_cons (pe_call GN hr rfl mN kN bN .nil pass0 (pa_cons (pv 0) (pa_cons (pe_int) pa_nil))) (pa_cons (pe_call GN hr rfl mN kN bN .nil pass0 (pa_cons (pv 0) (pa_cons (pe_op op_add (pv 1) pe_int) pa_nil))) pa_nil)) rfl rfl)
      (pss_one (ps_ret (pe_tup (pa_cons (pv 3) (pa_cons (pe_tup (pa_cons (pv 4) (pa_cons (pe_op op_add (pv 4) (pe_call GN hr rfl mN kN bN .nil pass0 (pa_cons (pv 0) (pa_cons (pe_int) pa_nil)))) pa_nil))) (pa_cons (pe_tup (pa_cons (pv 5) (pa_cons (pe_op op_add (pv 5) (pe_call GN hr rfl mN kN bN .nil pass0 (pa_cons (pv 0) (pa_cons (pe_op op_add (pe_op op_sub (pv 1) (pv 5)) pe_int) pa_nil)))) pa_nil))) pa_nil)))))))))), ?_⟩
    -- top
    refine ⟨_, rfl, pm, 4, B, rfl, (by decide), (by decide), (by omega), hM, fun r1 H1 a1 b1 M1 f1 => ?_⟩
    refine add_go fun tp ht => ?_
    -- on
    refine ⟨_, rfl, _, rfl, pm, tp, B + 1, rfl, (by omega), (by omega), (by omega), M1, fun r2 H2 a2 b2 M2 f2 => ?_⟩
    refine add_go fun on hon => ?_
    -- drain
    refine ⟨_, rfl, _, rfl, pm, 2, B + 1 + 1, rfl, (by omega), (by omega), (by omega), M2, fun r3 H3 a3 b3 M3 f3 => ?_⟩
    refine add_go fun dr hdr => ?_
    -- off
    refine ⟨_, rfl, _, rfl, _, rfl, pm, on, B + 1 + 1 + 1, rfl, (by omega), (by omega), (by omega), M3, fun off H4 a4 b4 M4 f4 => ?_⟩
    -- run
    refine ⟨_, rfl, pm, 2, B + 1 + 1 + 1 + 1, rfl, (by omega), (by omega), (by omega), M4, fun r5 H5 a5 b5 M5 f5 => ?_⟩
    refine add_go fun run hru => ?_
    -- rest
    refine ⟨_, rfl, pm, 2, B + 1 + 1 + 1 + 1 + 1, rfl, (by omega), (by omega), (by omega), M5, fun r6 H6 a6 b6 M6 f6 => ?_⟩
    refine add_go fun rest hre => ?_
    refine ⟨(by show 6 ≤ sizeLine; decide), fun t1 ht1 => ?_⟩
    have d1 : Dp K (upd H6 t1 (.tup [.int tp, .int dr, .int on, .int off, .int run, .int rest])) (.ref t1) (.tuple ([tp, dr, on, off, run, rest].map .int)) := .tup (SqT.of upd_same) (DpAll.of_ints [tp, dr, on, off, run, rest])
    have s7 : Same H6 (upd H6 t1 (.tup [.int tp, .int dr, .int on, .int off, .int run, .int rest])) := Same.new ht1
    have M7 := M6.same s7
    generalize upd H6 t1 (.tup [.int tp, .int dr, .int on, .int off, .int run, .int rest]) = H7 at d1 s7 M7
    -- starts
    refine ⟨_, rfl, _, rfl, pm, 2, B + 1 + 1 + 1 + 1 + 1 + 1, rfl, (by omega), (by omega), (by omega), M7, fun r8 H8 a8 b8 M8 f8 => ?_⟩
    refine add_go fun st hst => ?_
    refine ⟨_, rfl, pm, 2, B + 1 + 1 + 1 + 1 + 1 + 1 + 1, rfl, (by omega), (by omega), (by omega), M8, fun r9 H9 a9 b9 M9 f9 => ?_⟩
    refine add_go fun step hsp => ?_
    refine ⟨_, rfl, pm, 2, B + 1 + 1 + 1 + 1 + 1 + 1 + 1 + 1, rfl, (by omega), (by omega), (by omega), M9, fun lag H10 a10 b10 M10 f10 => ?_⟩
    refine ⟨(by show 3 ≤ sizeLine; decide), fun t2 ht2 => ?_⟩
    have s11 : Same H10 (upd H10 t2 (.tup [.int st, .int step, .int lag])) := Same.new ht2
    have d2 : Dp K (upd H10 t2 (.tup [.int st, .int step, .int lag])) (.ref t2) (.tuple ([st, step, lag].map .int)) := .tup (SqT.of upd_same) (DpAll.of_ints [st, step, lag])
    have d1b := (f10.d _ _ (noL_I [tp, dr, on, off, run, rest]) (f9.d _ _ (noL_I [tp, dr, on, off, run, rest]) (f8.d _ _ (noL_I [tp, dr, on, off, run, rest]) d1))).same s11
    have M11 := M10.same s11
    have f11 : FrM K H (upd H10 t2 (.tup [.int st, .int step, .int lag])) := ((((((((((f1.trans f2).trans f3).trans f4).trans f5).trans f6).trans (same_frm s7)).trans f8).trans f9).trans f10)).trans (same_frm s11)
    generalize upd H10 t2 (.tup [.int st, .int step, .int lag]) = H11 at d2 d1b M11 f11 s11
    refine ov_add _ _ _ _ _ _ _ d1b d2 (gAdd_II [tp, dr, on, off, run, rest] [st, step, lag] (by show 6 + 3 ≤ 100000; decide)) fun vw H12 s12 dw => ?_
    have M12 := M11.same s12
    have f12 := f11.trans (same_frm s12)
    -- low, begin
    refine ⟨_, rfl, pm, 2, B + 1 + 1 + 1 + 1 + 1 + 1 + 1 + 1 + 1, rfl, (by omega), (by omega), (by omega), M12, fun low H13 a13 b13 M13 f13 => ?_⟩
    refine ⟨_, rfl, _, rfl, ?_⟩
    refine ⟨_, _, rfl, rfl, ?_⟩
    refine ⟨pm, tp + 1, B + 1 + 1 + 1 + 1 + 1 + 1 + 1 + 1 + 1 + 1, rfl, (by omega), (by omega), (by omega), M13, fun bg H14 a14 b14 M14 f14 => ?_⟩
    refine ⟨_, _, rfl, ?_⟩
    -- the claim
    refine ⟨_, rfl, _, rfl, _, rfl, _, rfl, pm, 3, B + 1 + 1 + 1 + 1 + 1 + 1 + 1 + 1 + 1 + 1 + 1, rfl, (by omega), (by omega), (by omega), M14, fun r15 H15 a15 b15 M15 f15 => ?_⟩
    refine add_go fun hi hhi => ?_
    refine ⟨(by show 2 ≤ sizeLine; decide), fun t3 ht3 => ?_⟩
    have s16 : Same H15 (upd H15 t3 (.tup [.int low, .int hi])) := Same.new ht3
    have d3 : Dp K (upd H15 t3 (.tup [.int low, .int hi])) (.ref t3) (.tuple ([low, hi].map .int)) := .tup (SqT.of upd_same) (DpAll.of_ints [low, hi])
    have M16 := M15.same s16
    generalize upd H15 t3 (.tup [.int low, .int hi]) = H16 at d3 M16 s16
    -- the levels
    refine ⟨_, rfl, _, rfl, _, rfl, _, rfl, _, rfl, ?_⟩
    refine ⟨_, _, rfl, rfl, ?_⟩
    refine ⟨_, _, rfl, rfl, ?_⟩
    refine ⟨pm, tp - bg + 1, B + 1 + 1 + 1 + 1 + 1 + 1 + 1 + 1 + 1 + 1 + 1 + 1, rfl, (by omega), (by omega), (by omega), M16, fun r17 H17 a17 b17 M17 f17 => ?_⟩
    refine add_go fun to hto => ?_
    refine ⟨(by show 2 ≤ sizeLine; decide), fun t4 ht4 => ?_⟩
    have s18 : Same H17 (upd H17 t4 (.tup [.int bg, .int to])) := Same.new ht4
    have d4 : Dp K (upd H17 t4 (.tup [.int bg, .int to])) (.ref t4) (.tuple ([bg, to].map .int)) := .tup (SqT.of upd_same) (DpAll.of_ints [bg, to])
    have M18 := M17.same s18
    have d3b := (f17.d _ _ (noL_I [low, hi]) d3).same s18
    have dwb := (f17.d _ _ (noL_I ([tp, dr, on, off, run, rest] ++ [st, step, lag])) ((f15.d _ _ (noL_I ([tp, dr, on, off, run, rest] ++ [st, step, lag])) (f14.d _ _ (noL_I ([tp, dr, on, off, run, rest] ++ [st, step, lag])) (f13.d _ _ (noL_I ([tp, dr, on, off, run, rest] ++ [st, step, lag])) dw))).same s16)).same s18
    have f18 := ((((f12.trans f13).trans f14).trans f15).trans (same_frm s16)).trans (f17.trans (same_frm s18))
    generalize upd H17 t4 (.tup [.int bg, .int to]) = H18 at d4 M18 d3b dwb f18
    refine ⟨(by show 3 ≤ sizeLine; decide), fun t5 ht5 => ?_⟩
    have s19 : Same H18 (upd H18 t5 (.tup [vw, .ref t3, .ref t4])) := Same.new ht5
    refine q _ ⟨⟨tp, dr, on, off, run, rest, st, step, lag⟩, low, hi, bg, to⟩ _ ?_ (.tup (SqT.of upd_same) (.cons (dwb.same s19) (.cons (d3b.same s19) (.cons (d4.same s19) .nil)))) ?_ (f18.trans (same_frm s19))
    · exact ⟨⟨⟨⟨⟨by (try dsimp only); omega, by (try dsimp only); omega⟩, ⟨by (try dsimp only); omega, by (try dsimp only); omega⟩, ⟨by (try dsimp only); omega, by (try dsimp only); omega⟩, ⟨by (try dsimp only); omega, by (try dsimp only); omega⟩, ⟨by (try dsimp only); omega, by (try dsimp only); omega⟩, ⟨by (try dsimp only); omega, by (try dsimp only); omega⟩, ⟨by (try dsimp only); omega, by (try dsimp only); omega⟩, ⟨by (try dsimp only); omega, by (try dsimp only); omega⟩, ⟨by (try dsimp only); omega, by (try dsimp only); omega⟩⟩, ⟨by (try dsimp only); omega, by (try dsimp only); omega, by (try dsimp only); omega⟩, ⟨by (try dsimp only); omega, by (try dsimp only); omega, by (try dsimp only); omega⟩⟩, by (try dsimp only); omega, by (try dsimp only); omega, by (try dsimp only); omega, by (try dsimp only); omega, by (try dsimp only); omega⟩, by (try dsimp only); omega, by (try dsimp only); omega⟩
    · exact (M18.same s19).mono (by omega)
end
end Pm
set_option maxHeartbeats 4000000
/-! LE: the law's own search -/
namespace Pm
open PySem PySem.Spec PyProof.Rows L2
section
variable {P : Program} {w : World} {K : PySem.W.Frag} {mg : Str → Option Value} {base : Heap} {H H' : Hp}
/-- what the law's search may answer -/
def ShortV (c : Cl) (n : Option Int) (v : V) : Prop := v = .non ∨ (v = .int 0 ∧ ∃ k, (srN c n k).2 = [] ∧ (srN c n k).1.runs = []) ∨ ∃ k : Nat, v = .int ((k + 1 : Nat) : Int) ∧ (srN c n k).1.runs = [] ∧ (srN c n (k + 1)).1.runs ≠ []
def spShort (K : PySem.W.Frag) : Sp := fun vs H Q _ => ∃ (vc vn : V) (c : Cl) (n : Option Int), vs = [vc, vn] ∧ SmC c ∧ NumOk n ∧ Dp K H vc (encC c) ∧ Dp K H vn (encO n) ∧ ∀ v H', ShortV c n v → Same H H' → Q v H'
def knK (es : List Ent) : List (Sst × V) := es.map fun e => (e.st, V.bl true)
theorem knK_find (es : List Ent) (t : Sst) : (getS (knK es) t).isSome = (findE es t).isSome := by
  unfold getS knK findE
  rw [Option.isSome_map]
  induction es with
  | nil => rfl
  | cons a r ih =>
    rw [List.map_cons, List.find?_cons, List.find?_cons]
    cases h : decide (a.st = t)
    · exact ih
    · rfl
theorem knK_none {es : List Ent} {t : Sst} (h : findE es t = none) : getS (knK es) t = none := by
  have := knK_find es t
  rw [h] at this
  exact Option.not_isSome_iff_eq_none.mp (by rw [this]; decide)
theorem sc_lshort : FnScope ["_law_claim_so", "_law_number_so", "_law_layer", "_law_well_so", "_law_inflows_so", "_law_levels_so", "_law_known_so", "_law_length", "_law_one", "_law_level", "_law_fresh", "_law_inflow", "_law_far"] ["_law_claim_so", "_law_number_so"] (defScope (top 86)) := ⟨rfl, rfl, rfl, by decide +kernel, rfl, by decide +kernel, by decide +kernel⟩
theorem ok_shortest {f : Addr} {fd : FuncData} (F : Fun K "_law_shortest" "_law_shortest" (top 86) f fd) (T : Tx mg) (D_first : FnD P w K mg base 1 "_law_first" g_law_first) (D_beat : FnD P w K mg base 1 "_law_beat" g_law_beat) : FnOk P w K mg base CX0 2 f fd ["_law_claim_so", "_law_number_so"] (spShort K) := by
  refine F.ok sc_lshort (fun vs H Q E h => ?_) (fun cdv A outer s H vs Q E hr h => ?_)
  · obtain ⟨vc, vn, c, n, rfl, _⟩ := h
    rfl
  · obtain ⟨vc, vn, c, n, rfl, hc, hn, dc, dn, q⟩ := h
    refine ⟨_, pss_cons (ps_asg (pv 0) (pg_tup rfl (pgs_cons (pg_name (i := 3) sc_lshort.nd rfl (Or.inr rfl)) (pgs_cons (pg_name (i := 4) sc_lshort.nd rfl (Or.inl rfl)) (pgs_cons (pg_name (i := 5) sc_lshort.nd rfl (Or.inl rfl)) pgs_nil)))))
      (pss_cons (s_setLc (i := 2) (own := [("_law_level", 9)]) sc_lshort.nd rfl rfl (sw_true rfl rfl rfl (by decide +kernel)) (i_rng T.b_range (da_cons (d_ix (pd 5) d_int) (da_cons (d_bin op_addAll ov_add (d_ix (pd 5) d_int) d_int) da_nil))) (blkOk_by (N := ["_law_claim_so", "_law_number_so", "_law_layer", "_law_well_so", "_law_inflows_so", "_law_levels_so", "_law_known_so", "_law_length", "_law_one", "_law_level", "_law_fresh", "_law_inflow", "_law_far"]) (sc := (defScope (top 86))) (by decide +kernel)) (dg_name 9) (by decide) (fun _ _ _ _ _ => (pg_name (i := 9) sc_lshort.nd rfl (Or.inl rfl))) (fun _ _ _ _ _ => (d_call D_first (hr.mono (by decide)) (da_cons (pd 3) (da_cons (pd 1) (da_cons (pd 9) da_nil))))))
      (pss_cons (ps_par (i := 6) (j := 7) rfl sc_lshort.nd rfl rfl (by decide) rfl rfl (pa_cons (pe_callTy (call_dictPS rfl hr.units) (by rfl) T.b_dict bt_dict (pa_cons (d_lc (own := [("_law_one", 8)]) sc_lshort.nd (i_list (pd 2)) (blkOk_by (N := ["_law_claim_so", "_law_number_so", "_law_layer", "_law_well_so", "_law_inflows_so", "_law_levels_so", "_law_known_so", "_law_length", "_law_one", "_law_level", "_law_fresh", "_law_inflow", "_law_far"]) (sc := (defScope (top 86))) (by decide +kernel)) (dg_name 8) (by decide) (fun _ _ _ _ _ => (pg_name (i := 8) sc_lshort.nd rfl (Or.inl rfl))) (fun _ _ _ _ _ => (d_tup (da_cons (pd 8) (da_cons d_bl da_nil))))) pa_nil)) (pa_cons pe_int pa_nil)) rfl rfl)
      (pss_cons (ps_while PassesOwn.never (t_cmp (op_neD hr.units) ov_ne (pd 2) (d_lst da_nil) (nomark _))
        (pss_cons (ps_par (i := 10) (j := 7) rfl sc_lshort.nd rfl rfl (by decide) rfl rfl (pa_cons (pe_lst pa_nil) (pa_cons (pe_op op_add (pv 7) pe_int) pa_nil)) rfl rfl)
        (pss_cons (ps_for PassesOwn.never rfl (pi_list (pv 2)) (pg_name (i := 8) sc_lshort.nd rfl (Or.inl rfl))
          (pss_one (ps_for PassesOwn.never rfl (pi_range2 (by rfl) T.b_range (pa_cons (d_ix (pd 4) d_int) (pa_cons (d_bin op_addAll ov_add (d_ix (pd 4) d_int) d_int) pa_nil))) (pg_name (i := 11) sc_lshort.nd rfl (Or.inl rfl))
            (pss_cons (ps_set (i := 12) sc_lshort.nd rfl (Or.inl rfl) (d_call D_beat (hr.mono (by decide)) (da_cons (pd 3) (da_cons (pd 8) (da_cons (pd 11) da_nil)))))
            (pss_cons (ps_if (t_val (d_isa (T := "str") (pd 12) T.b_isinstance T.b_str (hT := bt_str))) (pss_one (ps_ret (pv 7))) pss_nil)
            (pss_one (ps_if (pt_cmpR (op_notInS hr.units) (pv 12) (pv 6) (by rfl))
              (pss_cons (ps_sput hr.units (pv 6) (pv 12) pe_bl rfl)
              (pss_one (ps_expr (pe_bm PySem.F.plainAttrs_list PySem.F.slot_list_append PySem.F.type_list_append mt_append (pv 10) (pa_cons (pv 12) pa_nil))))) pss_nil)))))))
        (pss_cons (ps_set (i := 2) sc_lshort.nd rfl (Or.inl rfl) (pv 10))
        (pss_one (ps_if (pt_cmpR op_gt (pe_callB call_lenS (by rfl) T.b_len bt_len (pa_cons (pv 6) pa_nil)) pe_int (nomark _)) (pss_one (ps_ret pe_non)) pss_nil))))))
      (pss_one (ps_ret pe_int))))), ?_⟩
    -- the parts of the claim
    obtain ⟨tc, us, rfl, htc, duc⟩ := dp_tup dc
    obtain ⟨vw, vi, vl, rfl, dw, di, dl⟩ := dpa3 duc
    have hP := hc.toCOk
    obtain ⟨h1, h2, h3⟩ := hP.lvs
    obtain ⟨i1, i2, i3⟩ := hP.infl
    have h4 := hP.w.top
    have lenI : (inf c.lo c.hi).length ≤ 301 := by rw [inf_length]; omega
    refine ⟨_, rfl, tc, _, rfl, htc, rfl, _, _, rfl, _, _, rfl, _, _, rfl, rfl, ?_⟩
    -- layer
    have c1 : -1000000 ≤ c.frm ∧ c.frm ≤ 1000000 ∧ -1000000 ≤ c.to + 1 ∧ c.to + 1 ≤ 1000000 := by omega
    have c2 : (inf c.frm c.to).length ≤ 100000 := by rw [inf_length]; omega
    have eF := fun lv => g_law_first_eq hP.w n lv
    have e4 := noL_map (g := fun lv => encS (begS c.w n lv)) (fun _ => noL_S _) (inf c.frm c.to)
    refine ⟨[none, some (encO n), none, some (encW c.w), none, some (.tuple [.int c.frm, .int c.to]), none, none, none, none, none, none, none], .list ((inf c.frm c.to).map fun lv => encS (begS c.w n lv)), env_no (env_c dn (env_no (env_c dw (env_no (env_c dl (env_no (env_no (env_no (env_no (env_no (env_no (env_no env_nil)))))))))))), ?_, fun vL H1 s1 dL => ?_⟩
    · simp -implicitDefEqProofs only [startD, sSeq, sSet, sRet, sIf, sSkip, sNever, sAsgG, sPar, fTup, f2, fSl, fPart, fNoPart, fVar, fC, fCons, fNil, fIf, fT, fCall, fIsa, fOrT, fAndT, fNotT, fAnd, fLc, fRng, fZip, fItemsT, fItemsL, List.map_cons, List.map_nil, List.length_cons, List.length_nil, List.replicate, List.cons_append, List.nil_append, List.getElem?_cons_zero, List.getElem?_cons_succ, List.set_cons_zero, List.set_cons_succ, Option.join_some, Option.join_none, Option.bind_some, Option.map_some, thenR_nx, thenR_rt, asI_int, asB_bool, gAdd_int, gSub_int, gMul_int, gCmpI_int, zBig, Nat.reduceAdd, Nat.reduceLeDiff, Nat.reduceSub, ite_true, ite_false, Bool.false_eq_true, decide_true, decide_false, gIs_none, decide_eq_true_eq, isD_tuple, isD_str, isD_int, isD_bool, isTuple_tuple, Bool.not_true, Bool.not_false, asTup_tup, asLst_lst, asRng_int, asZip_tup, wipeD, gNe, gEq, shaped_int, shaped_bool, shaped_none, and_self, condB_bool, gIx_tup, atI_z, atI_1, c1, rngD_inf, List.length_map, c2]
      rw [lcRun_map (g := fun lv => encS (begS c.w n lv)) fun i hi => ⟨_, rfl, ?_⟩]
      · simp -implicitDefEqProofs only [Option.bind_some, e4, if_true, Option.map_some]
      · simp -implicitDefEqProofs only [startD, sSeq, sSet, sRet, sIf, sSkip, sNever, sAsgG, sPar, fTup, f2, fSl, fPart, fNoPart, fVar, fC, fCons, fNil, fIf, fT, fCall, fIsa, fOrT, fAndT, fNotT, fAnd, fLc, fRng, fZip, fItemsT, fItemsL, List.map_cons, List.map_nil, List.length_cons, List.length_nil, List.replicate, List.cons_append, List.nil_append, List.getElem?_cons_zero, List.getElem?_cons_succ, List.set_cons_zero, List.set_cons_succ, Option.join_some, Option.join_none, Option.bind_some, Option.map_some, thenR_nx, thenR_rt, asI_int, asB_bool, gAdd_int, gSub_int, gMul_int, gCmpI_int, zBig, Nat.reduceAdd, Nat.reduceLeDiff, Nat.reduceSub, ite_true, ite_false, Bool.false_eq_true, decide_true, decide_false, gIs_none, decide_eq_true_eq, isD_tuple, isD_str, isD_int, isD_bool, isTuple_tuple, Bool.not_true, Bool.not_false, asTup_tup, asLst_lst, asRng_int, asZip_tup, wipeD, gNe, gEq, shaped_int, shaped_bool, shaped_none, and_self, condB_bool, eF, setN]
    have eL : (PyData.list ((inf c.frm c.to).map fun lv => encS (begS c.w n lv))) = .list ((beg0 c n).2.map encS) := by
      show _ = PyData.list (((inf c.frm c.to).map fun lv => begS c.w n lv).map encS)
      rw [List.map_map]
      rfl
    rw [eL] at dL
    obtain ⟨aL, vsL, rfl, hL, dvL⟩ := dp_lst dL
    -- known, length
    have G0 := Good.beg hP hn
    refine ⟨[none, none, some (.list ((beg0 c n).2.map encS)), none, none, none, none, none, none, none, none, none, none], .list ((beg0 c n).2.map L2.pairD), env_no (env_no (env_c dL (env_no (env_no (env_no (env_no (env_no (env_no (env_no (env_no (env_no (env_no env_nil)))))))))))), ?_, fun vP H2 s2 dP => ?_⟩
    · have e5 := noL_map (g := L2.pairD) (fun s => by show noL (.tuple [encS s, .bool true]) = true; simp [noL_S]) (beg0 c n).2
      have e6 : (beg0 c n).2.length ≤ 100000 := by show ((inf c.frm c.to).map _).length ≤ _; rw [List.length_map]; exact c2
      simp -implicitDefEqProofs only [startD, sSeq, sSet, sRet, sIf, sSkip, sNever, sAsgG, sPar, fTup, f2, fSl, fPart, fNoPart, fVar, fC, fCons, fNil, fIf, fT, fCall, fIsa, fOrT, fAndT, fNotT, fAnd, fLc, fRng, fZip, fItemsT, fItemsL, List.map_cons, List.map_nil, List.length_cons, List.length_nil, List.replicate, List.cons_append, List.nil_append, List.getElem?_cons_zero, List.getElem?_cons_succ, List.set_cons_zero, List.set_cons_succ, Option.join_some, Option.join_none, Option.bind_some, Option.map_some, thenR_nx, thenR_rt, asI_int, asB_bool, gAdd_int, gSub_int, gMul_int, gCmpI_int, zBig, Nat.reduceAdd, Nat.reduceLeDiff, Nat.reduceSub, ite_true, ite_false, Bool.false_eq_true, decide_true, decide_false, gIs_none, decide_eq_true_eq, isD_tuple, isD_str, isD_int, isD_bool, isTuple_tuple, Bool.not_true, Bool.not_false, asTup_tup, asLst_lst, asRng_int, asZip_tup, wipeD, gNe, gEq, shaped_int, shaped_bool, shaped_none, and_self, condB_bool, List.length_map, e6]
      rw [lcRun_map (g := L2.pairD) fun i hi => ⟨_, rfl, ?_⟩]
      · simp -implicitDefEqProofs only [Option.bind_some, e5, if_true, Option.map_some]
      · simp -implicitDefEqProofs only [startD, sSeq, sSet, sRet, sIf, sSkip, sNever, sAsgG, sPar, fTup, f2, fSl, fPart, fNoPart, fVar, fC, fCons, fNil, fIf, fT, fCall, fIsa, fOrT, fAndT, fNotT, fAnd, fLc, fRng, fZip, fItemsT, fItemsL, List.map_cons, List.map_nil, List.length_cons, List.length_nil, List.replicate, List.cons_append, List.nil_append, List.getElem?_cons_zero, List.getElem?_cons_succ, List.set_cons_zero, List.set_cons_succ, Option.join_some, Option.join_none, Option.bind_some, Option.map_some, thenR_nx, thenR_rt, asI_int, asB_bool, gAdd_int, gSub_int, gMul_int, gCmpI_int, zBig, Nat.reduceAdd, Nat.reduceLeDiff, Nat.reduceSub, ite_true, ite_false, Bool.false_eq_true, decide_true, decide_false, gIs_none, decide_eq_true_eq, isD_tuple, isD_str, isD_int, isD_bool, isTuple_tuple, Bool.not_true, Bool.not_false, asTup_tup, asLst_lst, asRng_int, asZip_tup, wipeD, gNe, gEq, shaped_int, shaped_bool, shaped_none, and_self, condB_bool, setN]
        rfl
    have hnd := G0.nd
    have hes : (beg0 c n).1.ents.map (·.st) = (beg0 c n).2 := by simp [beg0]
    rw [hes] at hnd
    refine ⟨vP, (beg0 c n).2, rfl, dP, hnd, (by show _ ≤ 100000; show ((inf c.frm c.to).map _).length ≤ _; rw [List.length_map]; exact c2), fun d1 φ hd1 D1 => ?_⟩
    refine ⟨_, _, rfl, ?_⟩
    have hk0 : (beg0 c n).2.map (fun st => (st, V.bl true)) = knK (beg0 c n).1.ents := by
      rw [← hes, List.map_map]
      rfl
    rw [hk0] at D1
    have s3 : Same H2 (upd H2 d1 (.ext φ)) := Same.new hd1
    have s03 := (s1.trans s2).trans s3
    have hd1H : H d1 = none := (s1.trans s2).free hd1
    have hL3 := (s2.trans s3).seq hL
    have dvL3 := dvL.same (s2.trans s3)
    generalize upd H2 d1 (.ext φ) = H3 at D1 s3 s03 hL3 dvL3
    -- while layer != []
    let W : Nat → L2.St → Hp → Prop := fun m σ H' => ∃ (k : Nat) (aL : Addr) (vsL : List V) (x8 x10 x11 x12 : Option V), σ = [some (.ref tc), some vn, some (.ref aL), some vw, some vi, some vl, some (.ref d1), some (.int (k : Nat)), x8, none, x10, x11, x12] ∧ Same H H' ∧ DSt P w K H' d1 (knK (srN c n k).1.ents) ∧ SqL K H' aL vsL ∧ DpAll K H' vsL ((srN c n k).2.map encS) ∧ (srN c n k).1.runs = [] ∧ m = mes (srN c n k)
    refine ⟨W, ⟨_, 0, aL, vsL, none, none, none, none, rfl, s03, D1, hL3, dvL3, rfl, rfl⟩, ?_⟩
    rintro m σ H7 ⟨k, aL, vsL, x8, x10, x11, x12, rfl, s7, D7, hL7, dL7, hruns, rfl⟩
    have Gk := Good.srN hc hn k
    generalize hT : srN c n k = Tk at D7 dL7 Gk hruns
    refine ⟨[none, none, some (.list (Tk.2.map encS)), none, none, none, none, none, none, none, none, none, none], !decide (Tk.2 = []), env_no (env_no (env_c (.lst hL7 dL7) (env_no (env_no (env_no (env_no (env_no (env_no (env_no (env_no (env_no (env_no env_nil)))))))))))), ?_, fun H8 s8 => ?_⟩
    · simp -implicitDefEqProofs only [fT, f2, fLst, fNil, fVar, List.getElem?_cons_zero, List.getElem?_cons_succ, Option.join_some, Option.bind_some, List.length_nil, zBig, Nat.zero_le, if_true, ne_nil_Ss, asB_bool]
    have D8 := D7.same s8
    have hL8 := s8.seq hL7
    have dL8 := dL7.same s8
    have sH8 := s7.trans s8
    by_cases hne : Tk.2 = []
    · rw [hne]
      refine iteNS (by simp) ?_
      refine q _ _ (.inr (.inl ⟨rfl, k, by rw [hT]; exact hne, by rw [hT]; exact hruns⟩)) sH8
    · rw [decide_eq_false hne]
      refine iteT ?_
      refine ⟨fun σ' H' => ∃ m', m' < mes Tk ∧ W m' σ' H', fun σ' H' h => h, ?_⟩
      -- fresh, length
      refine ⟨(by show 0 ≤ sizeLine; exact Nat.zero_le _), fun D hD => ?_⟩
      refine ⟨_, rfl, _, _, rfl, rfl, ?_⟩
      refine ⟨_, _, rfl, ?_⟩
      have s9 : Same H8 (upd H8 D (.lst [])) := Same.new hD
      obtain ⟨φ8, e8⟩ := D8.some
      have n8 : NoDats [d1] H8 := fun b hb => by
        rw [List.mem_singleton] at hb
        subst hb
        rw [e8]
        exact ⟨⟨fun _ z => (nomatch z), fun _ _ z => (nomatch z)⟩, fun _ z => (nomatch z)⟩
      have nd1D : d1 ≠ D := ne_of_none e8 hD
      have eH8 : ∀ H', Kp [d1] H8 H' → Same H H' := fun H' kp b o e => kp b o (sH8 b o e) fun z => by
        rw [List.mem_singleton] at z
        rw [z, hd1H] at e
        cases e
      let Ti : Nat → Sr × List Sst := fun i => layM c.w (inf c.lo c.hi) (Tk.2.take i) (Tk.1, [])
      have ti0 : Ti 0 = (Tk.1, []) := by simp only [Ti, List.take_zero]; exact layM_nil _ _ _
      have lenL : vsL.length = Tk.2.length := by rw [dL8.length, List.length_map]
      have stepT : (stepM c Tk) = Ti Tk.2.length := by simp only [Ti, List.take_length]; rfl
      let Pv : Nat → L2.St → Hp → Prop := fun i σ H' => ∃ (ws : List V) (x8 x11 x12 : Option V), σ = [some (.ref tc), some vn, some (.ref aL), some vw, some vi, some vl, some (.ref d1), some (.int ((k : Nat) + 1)), x8, none, some (.ref D), x11, x12] ∧ Kp [d1] H8 H' ∧ DSt P w K H' d1 (knK (Ti i).1.ents) ∧ H' D = some (.lst ws) ∧ DpAll K H' ws ((Ti i).2.map encS) ∧ (Ti i).1.runs = []
      refine ⟨_, rfl, aL, rfl, ⟨_, s9.seq hL8⟩, for_listK (xs := vsL) Pv ⟨[], x8, x11, x12, rfl, s9.kp, by rw [ti0]; exact D8.same s9, upd_same, by rw [ti0]; exact .nil, by rw [ti0]; exact hruns⟩ (fun i σ H2 _ ⟨_, _, _, _, _, kp, _⟩ => hL8.kp kp n8) ?_ ?_⟩
      · rintro i x σ H9 hx hy ⟨ws, x8, x11, x12, rfl, kp9, D9, hD9, dw9, hr9⟩
        have hi : i < Tk.2.length := by rw [← lenL]; exact (List.getElem?_eq_some_iff.mp hx).1
        obtain ⟨d, hd, dx8⟩ := dL8.get' hx
        rw [List.getElem?_map, List.getElem?_eq_getElem hi] at hd
        cases hd
        have Gi : Good c n (Ti i) := Gk.lay hc i
        have hf : (findE (Ti i).1.ents Tk.2[i]).isSome = true := by
          obtain ⟨x', h1, h2⟩ := findE_isSome.mp (Gk.ly _ (List.getElem_mem hi))
          obtain ⟨⟨more, m1, _⟩, _⟩ := layM_grow (w := c.w) (is := inf c.lo c.hi) (Tk.2.take i) (Tk.1, [])
          exact findE_isSome.mpr ⟨x', by show x' ∈ (layM c.w (inf c.lo c.hi) (Tk.2.take i) (Tk.1, [])).1.ents; rw [m1]; exact List.mem_append_left _ h1, h2⟩
        obtain ⟨e, he⟩ := Option.isSome_iff_exists.mp hf
        obtain ⟨he1, he2⟩ := findE_st he
        have Ti1 : Ti (i + 1) = behindM c.w e (inf c.lo c.hi) (Ti i) := by
          show layM c.w (inf c.lo c.hi) (Tk.2.take (i + 1)) (Tk.1, []) = _
          rw [List.take_add_one, List.getElem?_eq_getElem hi, layM_append]
          show layM c.w (inf c.lo c.hi) [Tk.2[i]] _ = _
          rw [layM_some he, layM_nil]
        rw [← he1] at dx8
        have dw9' := dw.same sH8
        let U : Nat → Sr × List Sst := fun j => behindM c.w e ((inf c.lo c.hi).take j) (Ti i)
        have U0 : U 0 = Ti i := by simp only [U, List.take_zero]; rfl
        have gU : ∀ j, e ∈ (U j).1.ents ∧ Good c n (U j) := fun j => by
          refine ⟨?_, Gi.behind hc he2 _ fun i hi => List.mem_of_mem_take hi⟩
          obtain ⟨⟨more, m1, _⟩, _⟩ := behindM_grow (w := c.w) (e := e) ((inf c.lo c.hi).take j) (Ti i)
          show e ∈ (behindM c.w e ((inf c.lo c.hi).take j) (Ti i)).1.ents
          rw [m1]
          exact List.mem_append_left _ he2
        -- for inflow in range(..)
        have di9 := (di.same sH8).kp kp9 n8
        refine ⟨[none, none, none, none, some (.tuple [.int c.lo, .int c.hi]), none, none, none, none, none, none, none, none], .int c.lo, env_no (env_no (env_no (env_no (env_c di9 (env_no (env_no (env_no (env_no (env_no (env_no (env_no (env_no env_nil)))))))))))), rfl, fun v1 H10 s10 dv1 => ?_⟩
        obtain rfl := dp_int dv1
        refine ⟨[none, none, none, none, some (.tuple [.int c.lo, .int c.hi]), none, none, none, none, none, none, none, none], .int (c.hi + 1), env_no (env_no (env_no (env_no (env_c (di9.same s10) (env_no (env_no (env_no (env_no (env_no (env_no (env_no (env_no env_nil)))))))))))), rfl, fun v2 H11 s11 dv2 => ?_⟩
        obtain rfl := dp_int dv2
        have s911 := s10.trans s11
        refine ⟨c.lo, c.hi + 1, rfl, ⟨by omega, by omega, by omega, by omega⟩, ?_⟩
        let Pv2 : Nat → L2.St → Hp → Prop := fun j σ H' => ∃ (ws : List V) (x11 x12 : Option V), σ = [some (.ref tc), some vn, some (.ref aL), some vw, some vi, some vl, some (.ref d1), some (.int ((k : Nat) + 1)), some x, none, some (.ref D), x11, x12] ∧ Kp [d1] H8 H' ∧ DSt P w K H' d1 (knK (U j).1.ents) ∧ H' D = some (.lst ws) ∧ DpAll K H' ws ((U j).2.map encS) ∧ (U j).1.runs = []
        refine for_range Pv2 ⟨ws, x11, x12, rfl, kp9.trans s911.kp, by rw [U0]; exact D9.same s911, s911 _ _ hD9, by rw [U0]; exact dw9.same s911, by rw [U0]; exact hr9⟩ ?_ ?_
        · rintro j σ H12 hj ⟨ws, x11, x12, rfl, kp12, D12, hD12, dw12, hr12⟩
          have hjl : j < (inf c.lo c.hi).length := by rw [inf_length]; exact hj
          have hget : (inf c.lo c.hi)[j]? = some (c.lo + (j : Int)) := by
            unfold inf
            rw [List.getElem?_map, List.getElem?_range hj]
            rfl
          have him : c.lo + (j : Int) ∈ inf c.lo c.hi := List.mem_of_getElem? hget
          have U1 : U (j + 1) = one c.w e (c.lo + (j : Int)) (U j) := behindM_take hget
          obtain ⟨gje, gj⟩ := gU j
          have few := gj.few hc
          have sml := gj.sm e gje
          have eB := g_law_beat_eq hP.w sml.shp (c.lo + (j : Int))
          -- far
          have dx12 := dx8.kp kp12 n8
          have dw12' := dw9'.kp kp12 n8
          refine ⟨[none, none, none, some (encW c.w), none, none, none, none, some (encS e.st), none, none, some (.int (c.lo + (j : Int))), none], encR (beatS c.w e.st (c.lo + (j : Int))), env_no (env_no (env_no (env_c dw12' (env_no (env_no (env_no (env_no (env_c dx12 (env_no (env_no (env_c (.int _) (env_no env_nil)))))))))))), ?_, fun vf H13 s13 df => ?_⟩
          · simp -implicitDefEqProofs only [startD, sSeq, sSet, sRet, sIf, sSkip, sNever, sAsgG, sPar, fTup, f2, fSl, fPart, fNoPart, fVar, fC, fCons, fNil, fIf, fT, fCall, fIsa, fOrT, fAndT, fNotT, fAnd, fLc, fRng, fZip, fItemsT, fItemsL, List.map_cons, List.map_nil, List.length_cons, List.length_nil, List.replicate, List.cons_append, List.nil_append, List.getElem?_cons_zero, List.getElem?_cons_succ, List.set_cons_zero, List.set_cons_succ, Option.join_some, Option.join_none, Option.bind_some, Option.map_some, thenR_nx, thenR_rt, asI_int, asB_bool, gAdd_int, gSub_int, gMul_int, gCmpI_int, zBig, Nat.reduceAdd, Nat.reduceLeDiff, Nat.reduceSub, ite_true, ite_false, Bool.false_eq_true, decide_true, decide_false, gIs_none, decide_eq_true_eq, isD_tuple, isD_str, isD_int, isD_bool, isTuple_tuple, Bool.not_true, Bool.not_false, asTup_tup, asLst_lst, asRng_int, asZip_tup, wipeD, gNe, gEq, shaped_int, shaped_bool, shaped_none, and_self, condB_bool, eB]
          generalize beq : beatS c.w e.st (c.lo + (j : Int)) = r at df
          -- isinstance(far, str)
          refine ⟨[none, none, none, none, none, none, none, none, none, none, none, none, some (encR r)], isWord r, env_no (env_no (env_no (env_no (env_no (env_no (env_no (env_no (env_no (env_no (env_no (env_no (env_c df env_nil)))))))))))), ?_, fun H14 s14 => ?_⟩
          · cases r <;> rfl
          have s124 := s13.trans s14
          have D14 := D12.same s124
          have hD14 := s124 _ _ hD12
          have dw14 := dw12.same s124
          have kp14 := kp12.trans s124.kp
          have df14 := df.same s14
          cases hwr : isWord r with
          | true =>
            refine iteT ?_
            refine ⟨_, rfl, ?_⟩
            refine q _ _ (.inr (.inr ⟨k, rfl, by rw [hT]; exact hruns, ?_⟩)) (eH8 _ kp14)
            have e1 : srN c n (k + 1) = stepM c Tk := by rw [← hT]; rfl
            rw [e1, stepT]
            have r1 : (U (j + 1)).1.runs ≠ [] := by
              rw [U1, one_word hwr beq, hr12]
              simp [hasR]
            have r2 : (Ti (i + 1)).1.runs ≠ [] := by
              rw [Ti1]
              obtain ⟨_, ⟨more, m1⟩, _⟩ := behindM_grow (w := c.w) (e := e) ((inf c.lo c.hi).drop (j + 1)) (U (j + 1))
              have : behindM c.w e ((inf c.lo c.hi).drop (j + 1)) (U (j + 1)) = behindM c.w e (inf c.lo c.hi) (Ti i) := by
                show List.foldl _ (List.foldl _ _ _) _ = List.foldl _ _ _
                rw [← List.foldl_append, List.take_append_drop]
              rw [← this, m1]
              exact fun z => r1 (List.append_eq_nil_iff.mp z).1
            obtain ⟨_, ⟨more, m1⟩, _⟩ := layM_grow (w := c.w) (is := inf c.lo c.hi) (Tk.2.drop (i + 1)) (Ti (i + 1))
            have : layM c.w (inf c.lo c.hi) (Tk.2.drop (i + 1)) (Ti (i + 1)) = Ti Tk.2.length := by
              show layM _ _ _ (layM _ _ _ _) = layM _ _ _ _
              rw [← layM_append, List.take_append_drop, List.take_length]
            rw [← this, m1]
            exact fun z => r2 (List.append_eq_nil_iff.mp z).1
          | false =>
            refine iteF ?_
            cases r with
            | over => cases hwr
            | dry => cases hwr
            | st t =>
              refine ⟨_, rfl, _, rfl, d1, t, _, rfl, df14, D14, _, rfl, ?_⟩
              rw [knK_find]
              cases hq : findE (U j).1.ents t with
              | some e' =>
                refine iteF ?_
                refine ⟨ws, _, _, rfl, kp14, ?_, hD14, ?_, ?_⟩
                · rw [U1, one_st beq, hq]; exact D14
                · rw [U1, one_st beq, hq]; exact dw14
                · rw [U1, one_st beq, hq]; exact hr12
              | none =>
                refine iteT ?_
                have hwsl : ws.length ≤ 14580 := by
                  have h5 := dw12.length
                  rw [List.length_map] at h5
                  have h6 := gj.lyn
                  omega
                refine ⟨_, rfl, _, rfl, d1, t, _, rfl, D14, df14, knK_none hq, ?_, fun φ hφ => ?_⟩
                · rw [knK, List.length_map]
                  exact Nat.lt_of_le_of_lt few (by rw [sizeLine_eq]; decide)
                · have k6 : Kp [d1] H14 (L2.upd H14 d1 (.ext φ)) := Kp.upd Kp.refl (by simp)
                  obtain ⟨φe, ee⟩ := D14.some
                  have n14 : NoDats [d1] H14 := fun b hb => by
                    rw [List.mem_singleton] at hb
                    subst hb
                    rw [ee]
                    exact ⟨⟨fun _ z => (nomatch z), fun _ _ z => (nomatch z)⟩, fun _ z => (nomatch z)⟩
                  have hD6 : (L2.upd H14 d1 (.ext φ)) D = some (.lst ws) := by rw [upd_ne nd1D.symm]; exact hD14
                  refine ⟨_, rfl, .inl ⟨rfl, _, SqL.of hD6⟩, _, rfl, D, ws, _, rfl, rfl, hD6, Nat.lt_of_le_of_lt hwsl (by rw [sizeLine_eq]; decide), ?_⟩
                  have ns : NoSeq ((L2.upd H14 d1 (.ext φ)) D) := by rw [hD6]; exact noSeq_lst
                  have dw6 := dw14.kp k6 n14
                  have df6 := df14.kp k6 n14
                  refine ⟨ws ++ [vf], _, _, rfl, ?_, ?_, upd_same, ?_, ?_⟩
                  · intro b o eb nb
                    have e1 := (kp14.trans k6) b o eb nb
                    have : b ≠ D := fun z => by rw [z, hD] at eb; cases eb
                    rw [upd_ne this]
                    exact e1
                  · rw [U1, one_st beq, hq]
                    show DSt P w K _ d1 (knK ((U j).1.ents ++ [_]))
                    rw [show knK ((U j).1.ents ++ [⟨t, some (e.st, c.lo + (j : Int)), e.lv, e.pth ++ [c.lo + (j : Int)]⟩]) = knK (U j).1.ents ++ [(t, V.bl true)] by simp [knK]]
                    exact hφ.upd ns nd1D
                  · rw [U1, one_st beq, hq]
                    show DpAll K _ (ws ++ [vf]) (((U j).2 ++ [t]).map encS)
                    rw [List.map_append]
                    exact (DpAll.upd ns dw6 (noL_map noL_S _)).append (.cons (Dp.upd ns df6 (noL_S t)) .nil)
                  · rw [U1, one_st beq, hq]
                    exact hr12
        · rintro σ H12 ⟨ws, x11, x12, rfl, kp12, D12, hD12, dw12, hr12⟩
          have eU : U (c.hi + 1 - c.lo).toNat = Ti (i + 1) := by
            rw [Ti1]
            show behindM c.w e ((inf c.lo c.hi).take _) (Ti i) = _
            rw [← inf_length, List.take_length]
          rw [eU] at D12 dw12 hr12
          exact ⟨ws, _, _, _, rfl, kp12, D12, hD12, dw12, hr12⟩
      · rintro σ H9 ⟨ws, x8, x11, x12, rfl, kp9, D9, hD9, dw9, hr9⟩
        rw [lenL, ← stepT] at D9 dw9 hr9
        have e1 : srN c n (k + 1) = stepM c Tk := by rw [← hT]; rfl
        refine ⟨_, rfl, ?_⟩
        refine ⟨_, rfl, d1, _, rfl, D9, _, _, rfl, rfl, _, rfl, ?_⟩
        refine ite2 (fun z => ?_) fun _ => ?_
        · exact q _ _ (.inl rfl) (eH8 _ kp9)
        · refine ⟨mes (srN c n (k + 1)), ?_, k + 1, D, ws, x8, _, x11, x12, rfl, eH8 _ kp9, by rw [e1]; exact D9, SqL.of hD9, by rw [e1]; exact dw9, by rw [e1]; exact hr9, rfl⟩
          rw [e1]
          exact mes_step hc Gk hne
end
end Pm
set_option maxHeartbeats 4000000
/-! LF: the law's _law_is_refused, given a lambda -/
namespace Pm
open PySem PySem.Spec PyProof.Rows L2 LamX
/-- the slots are as many as the names -/
theorem pss_len (n : Nat) {X : Cx} {sts : List Stmt} {t : TS} (hn : X.N.length = n) (h : PSs X sts t) : PSs X sts (fun D σ H => σ.length = n → t D σ H) := ⟨fun pins s σ H D I hw => h.run pins s σ H D I (hw (I.len.trans hn))⟩
theorem pe_weak {X : Cx} {e : Expr} {t : TE} (h : PE X e t) : PE X e (fun σ H Q => ∃ Q0 : VK, (∀ v H', Q0 v H' → Q v H') ∧ t σ H Q0) := ⟨fun pins s σ H Q I ⟨Q0, hq, hw⟩ => thn (h.run pins s σ H Q0 I hw) fun r s1 ⟨v, H1, I1, r1, q1⟩ => ⟨v, H1, I1, r1, hq _ _ q1⟩⟩
/-- what it makes of a lambda that raises BadPaper -/
def TRef (CB : Addr) : (XK → Hp → VK → Prop) → Hp → VK → Prop := fun tl H Q =>
  tl (fun cls d H' => cls = .ref CB ∧ ∃ (dd : Addr) (v : V), d = some dd ∧ H' dd = some (.xd [(("part" : Str), v)]) ∧ Q v H') H (fun _ _ => False)
theorem sc_lref : FnScope ["_law_call", "_law_found", "e"] ["_law_call"] (defScope (top 87)) := ⟨rfl, rfl, rfl, by decide +kernel, rfl, by decide +kernel, by decide +kernel⟩
theorem refused_gives {X : Cx} {CB fI : Addr} (T : PySem.BadX.BadTxt X.prog X.K X.mg CB fI) {g : Addr} {cdg : Value} {q : Str} : GivesTo X ["_law_call", "_law_found", "e"] "_law_is_refused" (defScope (top 87)) g cdg (defBody (top 87)) "_law_call" q (TRef CB) := by
  intro f c' s H Q tl act hc h
  refine ⟨_, pss_cons (ps_set (i := 1) sc_lref.nd rfl (Or.inl rfl) pe_non)
    (pss_cons (ps_try_as (X := (cxOf C8.CX0 X.prog X.w X.K X.mg X.base ["_law_call", "_law_found", "e"] "_law_is_refused" (defScope (top 87)) g cdg X.A X.stack s H C8.E0).nox) (c := .ref CB) (i := 2)
      (tb := fun W D σ H => ∃ Ech : XK, (∀ cls d σ' H', Ech cls d H' → W cls d σ' H') ∧ σ[0]? = some (some (.ref f)) ∧ H c' = some (CodeO c' q) ∧ tl Ech H (fun _ _ => False))
      rfl rfl sc_lref.nd rfl rfl ⟨by rfl, by decide, .inl T.gC⟩ LamX.takes0 (fun W pn xe tk _ => ?_) (fun a oe cls d pn hz hf => pss_len 3 rfl (pss_one (ps_set (i := 1) sc_lref.nd rfl (Or.inl rfl) (pe_partBad T hz hf (pv 2))))))
    (pss_one (ps_ret (pv 1)))), ?_⟩
  · refine ⟨fun pins s' σ H' D I h' => ?_⟩
    obtain ⟨Ech, hW, h1, h2, h3⟩ := h'
    exact (pss_one (ps_expr (pe_weak (act W pn xe Ech _ _ tk hW)))).run pins s' σ H' D I ⟨fun _ _ => False, fun _ _ z => z.elim, h1, h2, h3⟩
  · refine ⟨fun cls d H' => cls = .ref CB ∧ ∃ (dd : Addr) (v : V), d = some dd ∧ H' dd = some (.xd [(("part" : Str), v)]) ∧ Q v H', ?_, rfl, hc, ?_⟩
    · rintro cls d σ' H' ⟨rfl, dd, v, rfl, e1, e2⟩
      refine ⟨true, T.te, fun _ a ha hlen => ?_, fun z => (nomatch z)⟩
      have hl3 : σ'.length = 3 := by rw [← List.length_set (as := σ') (i := 2) (a := some (V.ref a))]; exact hlen
      refine ⟨_, List.getElem?_set_self (by rw [hl3]; decide), rfl, rfl, dd, v, rfl, e1, ?_⟩
      refine ⟨v, ?_, e2⟩
      rw [List.getElem?_set_ne (by decide), List.getElem?_set_self (by rw [List.length_set, hl3]; decide)]
    · exact h
end Pm
set_option maxHeartbeats 4000000
/-! LG: tables of code objects beside the law's data -/
namespace Pm
open PySem PySem.Spec PyProof.Rows L2 LamX
section
variable {K : PySem.W.Frag} {H H' : Hp} {pm : Addr}
theorem TabS.oth {P : Addr} {q : Str} (t : TabS H P q) (e : Oth H H') : TabS H' P q := by
  obtain ⟨ps, h1, h2, h3⟩ := t
  refine ⟨ps, e P _ h1 (fun _ z => (nomatch z)) (fun _ z => (nomatch z)), h2, fun pos cv hc => ?_⟩
  obtain ⟨c, h4, h5⟩ := h3 pos cv hc
  exact ⟨c, h4, e c _ h5 (fun _ z => (nomatch z)) (fun _ z => (nomatch z))⟩
theorem tabs_oth {T : List (Addr × Str)} (t : Tabs T H) (e : Oth H H') : Tabs T H' := fun p hp => TabS.oth (t p hp) e
theorem tabs_same {T : List (Addr × Str)} (t : Tabs T H) (e : Same H H') : Tabs T H' := t.ext e
/-- a table written: data stays -/
theorem seqL_ext {a : Addr} {xs : List V} (e : ExtN H H') (q : SqL K H a xs) : SqL K H' a xs := by
  rcases q with (q | ⟨u, q⟩) | q
  · exact .inl (.inl (e _ _ q fun _ z => (nomatch z)))
  · exact .inl (.inr ⟨u, e _ _ q fun _ z => (nomatch z)⟩)
  · exact .inr q
theorem seqT_ext {a : Addr} {xs : List V} (e : ExtN H H') (q : SqT K H a xs) : SqT K H' a xs := by
  rcases q with (q | ⟨u, q⟩) | q
  · exact .inl (.inl (e _ _ q fun _ z => (nomatch z)))
  · exact .inl (.inr ⟨u, e _ _ q fun _ z => (nomatch z)⟩)
  · exact .inr q
theorem MOk.extN {B : Int} (h : MOk H pm B) (e : ExtN H H') : MOk H' pm B := by
  obtain ⟨cs, gs, t, s, ⟨a, b, h0, h1, h2, h3⟩, h4⟩ := h.ex
  exact ⟨cs, gs, t, s, ⟨a, b, h0, e _ _ h1 fun _ z => (nomatch z), e _ _ h2 fun _ z => (nomatch z), e _ _ h3 fun _ z => (nomatch z)⟩, h4⟩
mutual
theorem Dp.extN (e : ExtN H H') : ∀ {d : PyData} {v : V}, Dp K H v d → Dp K H' v d
  | _, _, .non => .non
  | _, _, .bl b => .bl b
  | _, _, .int i => .int i
  | _, _, .str x => .str x
  | _, _, .lst h r => .lst (seqL_ext e h) (DpAll.extN e r)
  | _, _, .tup h r => .tup (seqT_ext e h) (DpAll.extN e r)
theorem DpAll.extN (e : ExtN H H') : ∀ {ds : List PyData} {vs : List V}, DpAll K H vs ds → DpAll K H' vs ds
  | _, _, .nil => .nil
  | _, _, .cons h r => .cons (Dp.extN e h) (DpAll.extN e r)
end
end
end Pm
set_option maxHeartbeats 4000000
/-! MA: the search's runs are real, and as long as they should be -/
namespace Pm
theorem runR_snoc {w : Wl} (i : Int) : ∀ (is : List Int) {r : Rs} {s : Sst}, runR w r is = some (.st s) → runR w r (is ++ [i]) = some (beatS w s i)
  | [], r, s, h => by
    cases h
    rfl
  | j :: is, .st t, s, h => runR_snoc i is (r := beatS w t j) h
  | _ :: _, .over, _, h => by cases h
  | _ :: _, .dry, _, h => by cases h
/-- a way that holds -/
structure Way (c : Cl) (n : Option Int) (lv : Int) (is : List Int) (r : Rs) : Prop where
  run : runR c.w (.st (begS c.w n lv)) is = some r
  lv1 : c.frm ≤ lv
  lv2 : lv ≤ c.to
  inf : ∀ i ∈ is, c.lo ≤ i ∧ i ≤ c.hi
structure Real (c : Cl) (n : Option Int) (T : Sr × List Sst) : Prop where
  e : ∀ e ∈ T.1.ents, Way c n e.lv e.pth (.st e.st)
  r : ∀ r ∈ T.1.runs, Way c n r.2.1 r.2.2 r.1 ∧ r.2.2 ≠ [] ∧ isWord r.1 = true
theorem Way.snoc {c : Cl} {n : Option Int} {lv : Int} {is : List Int} {s : Sst} (h : Way c n lv is (.st s)) {i : Int} (hi : i ∈ Pm.inf c.lo c.hi) : Way c n lv (is ++ [i]) (beatS c.w s i) :=
  ⟨runR_snoc i is h.run, h.lv1, h.lv2, fun j hj => by
    rcases List.mem_append.mp hj with z | z
    · exact h.inf j z
    · rw [List.mem_singleton] at z
      subst z
      exact mem_inf.mp hi⟩
theorem Real.one {c : Cl} {n : Option Int} {T : Sr × List Sst} (h : Real c n T) {e : Ent} (he : e ∈ T.1.ents) {i : Int} (hi : i ∈ inf c.lo c.hi) : Real c n (Pm.one c.w e i T) := by
  obtain ⟨m1, a1, _, a3⟩ := one_ents c.w e i T
  obtain ⟨m2, b1, b2⟩ := one_runs c.w e i T
  have hw := h.e e he
  refine ⟨fun x hx => ?_, fun r hr => ?_⟩
  · rw [a1] at hx
    rcases List.mem_append.mp hx with z | z
    · exact h.e x z
    · obtain ⟨_, z2, z3, z4, _⟩ := a3 x z
      rw [z2, z3, ← z4]
      exact hw.snoc hi
  · rw [b1] at hr
    rcases List.mem_append.mp hr with z | z
    · exact h.r r z
    · obtain ⟨z1, z2, z3, z4⟩ := b2 r z
      rw [z1, z2, ← z3]
      exact ⟨hw.snoc hi, by simp, by rw [z3]; exact z4⟩
theorem Real.step {c : Cl} {n : Option Int} {T : Sr × List Sst} (h : Real c n T) : Real c n (stepM c T) := by
  refine layM_inv (w := c.w) (is := Pm.inf c.lo c.hi) (Pr := Real c n) _ (T.1, []) ⟨h.e, h.r⟩ fun s hs e T1 hq h1 i hi T2 h2 h3 => ?_
  exact h3.one (findE_st h2).2 hi
theorem Real.beg {c : Cl} {n : Option Int} : Real c n (beg0 c n) := by
  refine ⟨fun e he => ?_, fun r hr => (nomatch hr)⟩
  obtain ⟨lv, h1, rfl⟩ := List.mem_map.mp he
  exact ⟨rfl, (mem_inf.mp h1).1, (mem_inf.mp h1).2, fun j hj => (nomatch hj)⟩
theorem Real.srN {c : Cl} {n : Option Int} : ∀ k, Real c n (srN c n k)
  | 0 => Real.beg
  | k + 1 => (Real.srN k).step
theorem Real.fst {c : Cl} {n : Option Int} {T : Sr × List Sst} (h : Real c n T) {S : Sr} (e : T.1 = S) : Real c n (S, []) := by
  subst e
  exact ⟨h.e, h.r⟩
theorem fin_real {c : Cl} (hc : SmC c) {n : Option Int} (hn : NumOk n) : Real c n (fin c n, []) := by
  obtain ⟨k, hk⟩ : ∃ k, (Pm.srN c n k).2 = [] := ⟨_, srN_end hc hn⟩
  exact (Real.srN k).fst (fin_of hc hn hk)
/-- the lengths: what was there at the step's start, and what came by it -/
structure Len (k : Nat) (S0 : Sr) (T : Sr × List Sst) : Prop where
  e : ∃ more, T.1.ents = S0.ents ++ more ∧ T.2 = more.map (·.st) ∧ ∀ x ∈ more, x.pth.length = k + 1
  r : ∃ more, T.1.runs = S0.runs ++ more ∧ ∀ x ∈ more, x.2.2.length = k + 1
theorem Len.one {k : Nat} {S0 : Sr} {T : Sr × List Sst} (h : Len k S0 T) {w : Wl} {e : Ent} (he : e.pth.length = k) (i : Int) : Len k S0 (Pm.one w e i T) := by
  obtain ⟨m1, a1, a2, a3⟩ := one_ents w e i T
  obtain ⟨m2, b1, b2⟩ := one_runs w e i T
  obtain ⟨m3, c1, c2, c3⟩ := h.e
  obtain ⟨m4, d1, d2⟩ := h.r
  refine ⟨⟨m3 ++ m1, by rw [a1, c1, List.append_assoc], by rw [a2, c2, List.map_append], fun x hx => ?_⟩, ⟨m4 ++ m2, by rw [b1, d1, List.append_assoc], fun x hx => ?_⟩⟩
  · rcases List.mem_append.mp hx with z | z
    · exact c3 x z
    · obtain ⟨_, _, z3, _⟩ := a3 x z
      rw [z3, List.length_append, he]
      rfl
  · rcases List.mem_append.mp hx with z | z
    · exact d2 x z
    · obtain ⟨_, z2, _⟩ := b2 x z
      rw [z2, List.length_append, he]
      rfl
/-- the layer's own lengths -/
def LayLen (k : Nat) (T : Sr × List Sst) : Prop := ∀ s ∈ T.2, ∀ e, findE T.1.ents s = some e → e.pth.length = k
theorem Len.step {c : Cl} {k : Nat} {T : Sr × List Sst} (hl : LayLen k T) (hf : ∀ s ∈ T.2, (findE T.1.ents s).isSome = true) : Len k T.1 (stepM c T) := by
  refine layM_inv (w := c.w) (is := Pm.inf c.lo c.hi) (Pr := Len k T.1) _ (T.1, []) ⟨⟨[], by simp, rfl, fun _ h => (nomatch h)⟩, ⟨[], by simp, fun _ h => (nomatch h)⟩⟩ fun s hs e T1 hq h1 i hi T2 h2 h3 => ?_
  refine h3.one ?_ i
  obtain ⟨m, e1, _⟩ := h3.e
  obtain ⟨e0, he0⟩ := Option.isSome_iff_exists.mp (hf s hs)
  have : findE T2.1.ents s = some e0 := by rw [e1]; exact findE_append he0
  rw [this] at h2
  cases h2
  exact hl s hs _ he0
theorem LayLen.step {c : Cl} (hc : SmC c) {n : Option Int} {k : Nat} {T : Sr × List Sst} (hg : Good c n T) (hl : LayLen k T) : LayLen (k + 1) (stepM c T) := by
  intro s hs e he
  obtain ⟨⟨more, e1, e2, e3⟩, _⟩ := Len.step (c := c) hl hg.ly
  rw [e2] at hs
  obtain ⟨x, hx, rfl⟩ := List.mem_map.mp hs
  have hnd := (hg.step hc).nd
  obtain ⟨h1, h2⟩ := findE_st he
  have hm : x ∈ (stepM c T).1.ents := by rw [e1]; exact List.mem_append_right _ hx
  have : x = e := by
    have h5 := mem_find hnd hm
    rw [h5] at he
    exact Option.some.inj he
  subst this
  exact e3 x hx
theorem LayLen.srN {c : Cl} (hc : SmC c) {n : Option Int} (hn : NumOk n) : ∀ k, LayLen k (srN c n k)
  | 0 => by
    intro s hs e he
    obtain ⟨_, h2⟩ := findE_st he
    obtain ⟨lv, _, rfl⟩ := List.mem_map.mp h2
    rfl
  | k + 1 => (LayLen.srN hc hn k).step hc (Good.srN hc hn k)
/-- the runs of a step -/
theorem runs_step {c : Cl} (hc : SmC c) {n : Option Int} (hn : NumOk n) (k : Nat) : ∃ more, (srN c n (k + 1)).1.runs = (srN c n k).1.runs ++ more ∧ ∀ x ∈ more, x.2.2.length = k + 1 :=
  (Len.step (c := c) (LayLen.srN hc hn k) (Good.srN hc hn k).ly).r
theorem runs_from {c : Cl} (hc : SmC c) {n : Option Int} (hn : NumOk n) (k : Nat) : ∀ j, ∃ more, (srN c n (k + j)).1.runs = (srN c n k).1.runs ++ more ∧ ∀ x ∈ more, k + 1 ≤ x.2.2.length
  | 0 => ⟨[], by simp, fun _ h => (nomatch h)⟩
  | j + 1 => by
    obtain ⟨m1, a1, a2⟩ := runs_from hc hn k j
    obtain ⟨m2, b1, b2⟩ := runs_step hc hn (k + j)
    refine ⟨m1 ++ m2, by rw [← Nat.add_assoc, b1, a1, List.append_assoc], fun x hx => ?_⟩
    rcases List.mem_append.mp hx with z | z
    · exact a2 x z
    · have := b2 x z
      omega
theorem fin_from {c : Cl} (hc : SmC c) {n : Option Int} (hn : NumOk n) (k : Nat) : ∃ more, (fin c n).runs = (srN c n k).1.runs ++ more ∧ ∀ x ∈ more, k + 1 ≤ x.2.2.length := by
  obtain ⟨K, hK⟩ : ∃ k, (Pm.srN c n k).2 = [] := ⟨_, srN_end hc hn⟩
  obtain ⟨more, h1, h2⟩ := runs_from hc hn k K
  have h3 : (srN c n (K + k)).1 = (srN c n K).1 := by rw [srN_stay hK k]
  rw [Nat.add_comm k K, h3, fin_of hc hn hK] at h1
  exact ⟨more, h1, h2⟩
/-- no run at all -/
theorem fin_none {c : Cl} (hc : SmC c) {n : Option Int} (hn : NumOk n) {k : Nat} (h : (srN c n k).2 = []) (hr : (srN c n k).1.runs = []) : (fin c n).runs = [] := by
  rw [← fin_of hc hn h]
  exact hr
/-- the least run has the length at which the first one came -/
theorem fin_least {c : Cl} (hc : SmC c) {n : Option Int} (hn : NumOk n) {k : Nat} (h0 : (srN c n k).1.runs = []) (h1 : (srN c n (k + 1)).1.runs ≠ []) :
    ∃ r rs, (fin c n).runs = r :: rs ∧ (bestR r rs).2.2.length = k + 1 := by
  obtain ⟨more, e1, e2⟩ := runs_step hc hn k
  obtain ⟨mf, f1, f2⟩ := fin_from hc hn (k + 1)
  rw [h0, List.nil_append] at e1
  rw [e1] at f1 h1
  cases hm : more with
  | nil => exact absurd hm h1
  | cons r m =>
    rw [hm] at f1 e2
    refine ⟨r, m ++ mf, by rw [f1, List.cons_append], ?_⟩
    have hb := bestR_mem r (m ++ mf)
    have hle := bestR_le r (m ++ mf) r List.mem_cons_self
    have hr := e2 r List.mem_cons_self
    have hge : k + 1 ≤ (bestR r (m ++ mf)).2.2.length := by
      generalize hb2 : bestR r (m ++ mf) = b at hb
      rcases List.mem_cons.mp hb with z | z
      · rw [z]; omega
      · rcases List.mem_append.mp z with z | z
        · have := e2 b (List.mem_cons_of_mem _ z)
          omega
        · have := f2 b z
          omega
    omega
/-! ### the runs that are refused -/
theorem runR_dropLast {w : Wl} : ∀ (is : List Int) {r r' : Rs}, is ≠ [] → runR w r is = some r' → ∃ s, runR w r is.dropLast = some (.st s)
  | [], _, _, h, _ => absurd rfl h
  | [i], .st s, r', _, h => ⟨s, rfl⟩
  | i :: j :: is, .st s, r', _, h => runR_dropLast (j :: is) (r := beatS w s i) (by simp) h
  | _ :: _, .over, _, _, h => by cases h
  | _ :: _, .dry, _, _, h => by cases h
end Pm
set_option maxHeartbeats 4000000
/-! MB: at the search's end all is gone through -/
namespace Pm
/-- gone on with -/
structure Grow (S S' : Sr) : Prop where
  e : ∃ more, S'.ents = S.ents ++ more
  r : ∃ more, S'.runs = S.runs ++ more
  b : S.bz ≤ S'.bz
theorem Grow.refl (S : Sr) : Grow S S := ⟨⟨[], by simp⟩, ⟨[], by simp⟩, Int.le_refl _⟩
theorem Grow.trans {S S' S'' : Sr} (h : Grow S S') (k : Grow S' S'') : Grow S S'' := by
  obtain ⟨m1, h1⟩ := h.e
  obtain ⟨m2, h2⟩ := h.r
  obtain ⟨m3, k1⟩ := k.e
  obtain ⟨m4, k2⟩ := k.r
  exact ⟨⟨m1 ++ m3, by rw [k1, h1, List.append_assoc]⟩, ⟨m2 ++ m4, by rw [k2, h2, List.append_assoc]⟩, Int.le_trans h.b k.b⟩
theorem Grow.find {S S' : Sr} (h : Grow S S') {t : Sst} (e : (findE S.ents t).isSome = true) : (findE S'.ents t).isSome = true := by
  obtain ⟨x, hx⟩ := Option.isSome_iff_exists.mp e
  obtain ⟨m, hm⟩ := h.e
  rw [hm, findE_append hx]
  rfl
theorem Grow.has {S S' : Sr} (h : Grow S S') {r : Rs} (e : hasR S.runs r = true) : hasR S'.runs r = true := by
  obtain ⟨m, hm⟩ := h.r
  unfold hasR at e ⊢
  rw [hm, List.any_append, e]
  rfl
theorem grow_one (w : Wl) (e : Ent) (i : Int) (T : Sr × List Sst) : Grow T.1 (one w e i T).1 := by
  obtain ⟨m1, a1, _⟩ := one_ents w e i T
  obtain ⟨m2, b1, _⟩ := one_runs w e i T
  exact ⟨⟨m1, a1⟩, ⟨m2, b1⟩, (one_bz w e i T).1⟩
theorem grow_behind (w : Wl) (e : Ent) (is : List Int) (T : Sr × List Sst) : Grow T.1 (behindM w e is T).1 := by
  obtain ⟨⟨m1, a1, _⟩, ⟨m2, b1⟩, c1⟩ := behindM_grow (w := w) (e := e) is T
  exact ⟨⟨m1, a1⟩, ⟨m2, b1⟩, c1⟩
theorem grow_lay (w : Wl) (is : List Int) (l : List Sst) (T : Sr × List Sst) : Grow T.1 (layM w is l T).1 := by
  obtain ⟨⟨m1, a1, _⟩, ⟨m2, b1⟩, c1⟩ := layM_grow (w := w) (is := is) l T
  exact ⟨⟨m1, a1⟩, ⟨m2, b1⟩, c1⟩
/-- one inflow is seen to -/
def Seen (w : Wl) (s : Sst) (i : Int) (S : Sr) : Prop := (∀ t, beatS w s i = .st t → (findE S.ents t).isSome = true) ∧ (isWord (beatS w s i) = true → hasR S.runs (beatS w s i) = true) ∧ busy w s ≤ S.bz
theorem Seen.grow {w : Wl} {s : Sst} {i : Int} {S S' : Sr} (h : Seen w s i S) (g : Grow S S') : Seen w s i S' := ⟨fun t e => g.find (h.1 t e), fun e => g.has (h.2.1 e), Int.le_trans h.2.2 g.b⟩
theorem seen_one (w : Wl) (e : Ent) (i : Int) (T : Sr × List Sst) : Seen w e.st i (one w e i T).1 := by
  refine ⟨fun t h => ?_, fun h => ?_, (one_bz w e i T).2⟩
  · rw [one_st h]
    split
    · assumption
    · rename_i hn
      refine findE_isSome.mpr ⟨_, List.mem_append_right _ (List.mem_singleton.mpr rfl), rfl⟩
  · rw [one_word h rfl]
    split
    · assumption
    · unfold hasR
      rw [List.any_append]
      simp
theorem seen_behind (w : Wl) (e : Ent) : ∀ (is : List Int) (T : Sr × List Sst), ∀ i ∈ is, Seen w e.st i (behindM w e is T).1
  | j :: is, T, i, hi => by
    show Seen w e.st i (behindM w e is (one w e j T)).1
    rcases List.mem_cons.mp hi with z | z
    · subst z
      exact (seen_one w e i T).grow (grow_behind w e is _)
    · exact seen_behind w e is _ i z
theorem seen_lay (w : Wl) (is : List Int) : ∀ (l : List Sst) (T : Sr × List Sst), (∀ s ∈ l, (findE T.1.ents s).isSome = true) → ∀ s ∈ l, ∀ i ∈ is, Seen w s i (layM w is l T).1
  | a :: l, T, hf, s, hs, i, hi => by
    obtain ⟨e, he⟩ := Option.isSome_iff_exists.mp (hf a List.mem_cons_self)
    have g := grow_behind w e is T
    rw [layM_some he]
    rcases List.mem_cons.mp hs with z | z
    · subst z
      have := (seen_behind w e is T i hi).grow (grow_lay w is l (behindM w e is T))
      rw [(findE_st he).1] at this
      exact this
    · exact seen_lay w is l _ (fun s hs => g.find (hf s (List.mem_cons_of_mem _ hs))) s z i hi
/-- what is not in the layer is seen to -/
def Shut (c : Cl) (T : Sr × List Sst) : Prop := ∀ e ∈ T.1.ents, e.st ∈ T.2 ∨ ∀ i ∈ inf c.lo c.hi, Seen c.w e.st i T.1
theorem Shut.step {c : Cl} {n : Option Int} {T : Sr × List Sst} (hg : Good c n T) (h : Shut c T) : Shut c (stepM c T) := by
  intro e he
  obtain ⟨⟨m1, a1, a2⟩, _⟩ := layM_grow (w := c.w) (is := inf c.lo c.hi) T.2 (T.1, [])
  have a1 : (stepM c T).1.ents = T.1.ents ++ m1 := a1
  have a2 : (stepM c T).2 = [] ++ m1.map (·.st) := a2
  rw [a1] at he
  rcases List.mem_append.mp he with z | z
  · right
    intro i hi
    rcases h e z with q | q
    · exact seen_lay c.w _ T.2 (T.1, []) hg.ly e.st q i hi
    · exact (q i hi).grow (grow_lay c.w _ T.2 (T.1, []))
  · left
    rw [a2, List.nil_append]
    exact List.mem_map.mpr ⟨e, z, rfl⟩
theorem Shut.srN {c : Cl} (hc : SmC c) {n : Option Int} (hn : NumOk n) : ∀ k, Shut c (srN c n k)
  | 0 => fun e he => by
    left
    obtain ⟨lv, h1, rfl⟩ := List.mem_map.mp he
    exact List.mem_map.mpr ⟨lv, h1, rfl⟩
  | k + 1 => (Shut.srN hc hn k).step (Good.srN hc hn k)
theorem Shut.fst {c : Cl} {T : Sr × List Sst} (h : Shut c T) (e : T.2 = []) {S : Sr} (q : T.1 = S) : ∀ x ∈ S.ents, ∀ i ∈ inf c.lo c.hi, Seen c.w x.st i S := by
  subst q
  intro x hx
  rcases h x hx with z | z
  · rw [e] at z; cases z
  · exact z
theorem fin_shut {c : Cl} (hc : SmC c) {n : Option Int} (hn : NumOk n) : ∀ x ∈ (fin c n).ents, ∀ i ∈ inf c.lo c.hi, Seen c.w x.st i (fin c n) := by
  obtain ⟨k, hk⟩ : ∃ k, (Pm.srN c n k).2 = [] := ⟨_, srN_end hc hn⟩
  exact (Shut.srN hc hn k).fst hk (fin_of hc hn hk)
theorem grow_srN {c : Cl} {n : Option Int} : ∀ k, Grow (beg0 c n).1 (Pm.srN c n k).1
  | 0 => Grow.refl _
  | k + 1 => (grow_srN k).trans (grow_lay c.w _ (Pm.srN c n k).2 ((Pm.srN c n k).1, []))
theorem fin_beg {c : Cl} (hc : SmC c) {n : Option Int} (hn : NumOk n) : ∀ lv ∈ inf c.frm c.to, (findE (fin c n).ents (begS c.w n lv)).isSome = true := by
  intro lv h
  obtain ⟨k, hk⟩ : ∃ k, (Pm.srN c n k).2 = [] := ⟨_, srN_end hc hn⟩
  rw [← fin_of hc hn hk]
  exact (grow_srN k).find (findE_isSome.mpr ⟨_, List.mem_map.mpr ⟨lv, h, rfl⟩, rfl⟩)
end Pm
set_option maxHeartbeats 4000000
/-! MC: ways stay in the search; lesser claims; other numbers -/
namespace Pm
theorem list_snoc {α : Type} {l : List α} (h : l ≠ []) : ∃ a x, l = a ++ [x] := ⟨l.dropLast, l.getLast h, (List.dropLast_concat_getLast h).symm⟩
theorem Way.pref {c : Cl} {n : Option Int} {lv : Int} {is : List Int} {i : Int} {r : Rs} (h : Way c n lv (is ++ [i]) r) : ∃ s, Way c n lv is (.st s) ∧ beatS c.w s i = r ∧ i ∈ Pm.inf c.lo c.hi := by
  obtain ⟨s, hs⟩ := runR_dropLast (is ++ [i]) (by simp) h.run
  rw [List.dropLast_append_of_ne_nil (by simp)] at hs
  simp only [List.dropLast_singleton, List.append_nil] at hs
  have h2 := runR_snoc i is hs
  rw [h.run] at h2
  have hi := h.inf i (List.mem_append_right _ (List.mem_singleton.mpr rfl))
  exact ⟨s, ⟨hs, h.lv1, h.lv2, fun j hj => h.inf j (List.mem_append_left _ hj)⟩, (Option.some.inj h2).symm, mem_inf.mpr hi⟩
theorem way_in {c : Cl} (hc : SmC c) {n : Option Int} (hn : NumOk n) : ∀ (k : Nat) (is : List Int) (lv : Int) (r : Rs), is.length = k → Way c n lv is r → (∀ t, r = .st t → (findE (fin c n).ents t).isSome = true) ∧ (isWord r = true → hasR (fin c n).runs r = true) := by
  intro k
  induction k with
  | zero =>
    intro is lv r hl h
    have : is = [] := List.eq_nil_of_length_eq_zero hl
    subst this
    have h1 := h.run
    have : r = .st (begS c.w n lv) := by
      simp only [runR, Option.some.injEq] at h1
      exact h1.symm
    subst this
    refine ⟨fun t e => ?_, fun e => (nomatch e)⟩
    cases e
    exact fin_beg hc hn lv (mem_inf.mpr ⟨h.lv1, h.lv2⟩)
  | succ k ih =>
    intro is lv r hl h
    obtain ⟨a, x, rfl⟩ := list_snoc (l := is) (fun z => by rw [z] at hl; cases hl)
    obtain ⟨s, h1, h2, h3⟩ := h.pref
    have h4 := (ih a lv _ (by simpa using hl) h1).1 s rfl
    obtain ⟨e, he1, he2⟩ := findE_isSome.mp h4
    have h5 := fin_shut hc hn e he1 x h3
    rw [he2, Seen, h2] at h5
    exact ⟨h5.1, h5.2.1⟩
/-- a lesser claim of a safe one is safe -/
theorem sub_safe {c c' : Cl} (hc : SmC c) (hc' : SmC c') {n : Option Int} (hn : NumOk n) (hw : c'.w = c.w) (h1 : c.lo ≤ c'.lo) (h2 : c'.hi ≤ c.hi) (h3 : c.frm ≤ c'.frm) (h4 : c'.to ≤ c.to) (hr : (fin c n).runs = []) : (fin c' n).runs = [] := by
  cases q : (fin c' n).runs with
  | nil => rfl
  | cons r rs =>
    obtain ⟨w, _, z⟩ := (fin_real hc' hn).r r (by rw [q]; exact List.mem_cons_self)
    have w2 : Way c n r.2.1 r.2.2 r.1 := ⟨by rw [← hw]; exact w.run, Int.le_trans h3 w.lv1, Int.le_trans w.lv2 h4, fun i hi => ⟨Int.le_trans h1 (w.inf i hi).1, Int.le_trans (w.inf i hi).2 h2⟩⟩
    have := (way_in hc hn _ r.2.2 r.2.1 r.1 rfl w2).2 z
    rw [hr] at this
    cases this
/-! ### other numbers -/
def withN (N : Int) (s : Sst) : Sst := ⟨s.lv, s.past, s.runs, s.rests, some (N - s.runs.sum - s.rests.sum)⟩
theorem sum_take_getD : ∀ (l : List Int) (k : Nat), l.length = k + 1 → (l.take k).sum + l.getLastD 0 = l.sum
  | [a], 0, _ => by simp
  | a :: b :: l, k + 1, h => by
    have := sum_take_getD (b :: l) k (by simpa using h)
    simp only [List.take_succ_cons, List.sum_cons] at this ⊢
    rw [List.getLastD_cons] at this ⊢
    rw [List.getLastD_cons]
    omega
theorem agedOff_sum (rests : List Int) (b : Int) : (agedOff rests b).sum + (b :: rests).getLastD 0 = b + rests.sum := by
  have := sum_take_getD (b :: rests) rests.length rfl
  unfold agedOff
  rw [List.sum_cons] at this
  exact this
theorem agedOn_sum {runs : List Int} (h : runs ≠ []) (a b : Int) : (agedOn runs a b).sum = a + runs.sum - b := by
  have hl : 0 < runs.length := List.length_pos_iff.mpr h
  have h1 := sum_take_getD (a :: runs) runs.length rfl
  have h2 := sum_take_getD ((a :: runs).take runs.length) (runs.length - 1) (by rw [List.length_take]; simp; omega)
  rw [List.take_take, Nat.min_eq_left (by omega)] at h2
  have h3 : ((a :: runs).take runs.length).getLastD 0 = (a :: runs).getD (runs.length - 1) 0 := by
    rw [List.getLastD_eq_getLast?, List.getLast?_eq_getElem?, List.length_take, List.length_cons, Nat.min_eq_left (by omega), List.getElem?_take, if_pos (by omega), List.getD_eq_getElem?_getD]
  have h4 : (a :: runs).getLastD 0 = runs.getLastD 0 := by
    cases runs with
    | nil => exact absurd rfl h
    | cons x r => rw [List.getLastD_cons, List.getLastD_cons, List.getLastD_cons]
  rw [h3] at h2
  rw [h4, List.sum_cons] at h1
  unfold agedOn
  rw [List.sum_append, List.sum_cons, List.sum_nil]
  omega
theorem beat_withN {w : Wl} (hw : WOk w) {s : Sst} (hs : Shp w s) (hr : s.ready = none) {N : Int} (hb : busy w s ≤ N) (i : Int) : beatS w (withN N s) i = match beatS w s i with
  | .st t => .st (withN N t)
  | r => r := by
  have hrn : s.runs ≠ [] := fun z => by have h1 := hs.runs; have h2 := hw.run; rw [z] at h1; simp at h1; omega
  have ha : startedS w (withN N s) = startedS w s := by
    unfold busy busyS startedS at hb
    unfold startedS withN
    rw [hr] at hb ⊢
    simp only at hb ⊢
    by_cases h : w.on ≤ seenS w s.lv s.past
    · rw [if_pos h] at hb
      rw [if_pos h, if_pos h]
      by_cases h2 : N - s.runs.sum - s.rests.sum < w.starts
      · omega
      · rw [if_neg h2]
    · rw [if_neg h, if_neg h]
  have hbb : stoppedS w (withN N s) = stoppedS w s := rfl
  unfold beatS
  rw [ha, hbb]
  generalize startedS w s = a
  generalize stoppedS w s = b
  unfold ledS
  show (if w.top < lvS w s a b i then Rs.over else if lvS w s a b i < 0 then .dry else .st ⟨lvS w s a b i, pastS w s, agedOn s.runs a b, agedOff s.rests b, agedRdy (some (N - s.runs.sum - s.rests.sum)) s.rests a b⟩) = _
  by_cases h1 : w.top < lvS w s a b i
  · simp only [if_pos h1]
  · by_cases h2 : lvS w s a b i < 0
    · simp only [if_neg h1, if_pos h2]
    · simp only [if_neg h1, if_neg h2]
      have e1 := agedOn_sum hrn a b
      have e2 := agedOff_sum s.rests b
      unfold withN agedRdy
      simp only [Option.map_some, Rs.st.injEq, Sst.mk.injEq, true_and, Option.some.injEq]
      omega
end Pm
set_option maxHeartbeats 4000000
/-! MD: the papers of the law -/
namespace Pm
def liftN (N : Int) : Rs → Rs
  | .st t => .st (withN N t)
  | r => r
theorem run_withN {c : Cl} (hc : SmC c) {N : Int} (hN : (fin c none).bz ≤ N) : ∀ (k : Nat) (is : List Int) (lv : Int) (r : Rs), is.length = k → Way c none lv is r → runR c.w (.st (begS c.w (some N) lv)) is = some (liftN N r) := by
  have hn : NumOk none := fun _ z => (nomatch z)
  intro k
  induction k with
  | zero =>
    intro is lv r hl h
    have : is = [] := List.eq_nil_of_length_eq_zero hl
    subst this
    have h1 := h.run
    have : r = .st (begS c.w none lv) := by
      simp only [runR, Option.some.injEq] at h1
      exact h1.symm
    subst this
    show some _ = some (Rs.st (withN N (begS c.w none lv)))
    unfold withN begS
    simp only [sum_zeros]
    simp
  | succ k ih =>
    intro is lv r hl h
    obtain ⟨a, x, rfl⟩ := list_snoc (l := is) (fun z => by rw [z] at hl; cases hl)
    obtain ⟨s, h1, h2, h3⟩ := h.pref
    have h4 := (way_in hc hn _ a lv _ rfl h1).1 s rfl
    obtain ⟨e, he1, he2⟩ := findE_isSome.mp h4
    have h5 := (fin_shut hc hn e he1 x h3).2.2
    have sml := (fin_good hc hn).sm e he1
    rw [he2] at h5 sml
    have hrd : s.ready = none := by
      have := sml.num
      unfold numOf at this
      exact Option.map_eq_none_iff.mp this
    have h6 := runR_snoc x a (ih a lv _ (by simpa using hl) h1)
    rw [h6, beat_withN hc.w sml.shp hrd (Int.le_trans h5 hN) x, h2]
    cases r <;> rfl
/-- the best run of a claim that is not safe -/
structure Best (c : Cl) (n : Option Int) (b : Rs × Int × List Int) : Prop where
  wd : isWord b.1 = true
  way : Way c n b.2.1 b.2.2 b.1
  ne : b.2.2 ≠ []
  ln : b.2.2.length ≤ 14580
theorem best_of {c : Cl} (hc : SmC c) {n : Option Int} (hn : NumOk n) {r : Rs × Int × List Int} {rs : List (Rs × Int × List Int)} (h : (fin c n).runs = r :: rs) : Best c n (bestR r rs) := by
  have hm := bestR_mem r rs
  rw [← h] at hm
  obtain ⟨h1, h2, h3⟩ := (fin_real hc hn).r _ hm
  have h4 := ((fin_good hc hn).rw _ hm).2
  exact ⟨h3, h1, h2, Nat.le_trans h4 ((fin_good hc hn).few hc)⟩
theorem Best.ok {c : Cl} {n : Option Int} {b : Rs × Int × List Int} (h : Best c n b) (m : Option Int) : okPap c m (.run b.1 b.2.1 b.2.2) := ⟨h.wd, h.way.lv1, h.way.lv2, h.way.inf, Nat.le_trans h.ln (by decide)⟩
theorem Best.res {c : Cl} {n : Option Int} {b : Rs × Int × List Int} (h : Best c n b) : resPap c n (.run b.1 b.2.1 b.2.2) = true := decide_eq_true ⟨h.ne, h.way.run⟩
/-- another number of pumps, not less than were ever busy -/
theorem Best.more {c : Cl} (hc : SmC c) {b : Rs × Int × List Int} (h : Best c none b) {N : Int} (hN : (fin c none).bz ≤ N) : resPap c (some N) (.run b.1 b.2.1 b.2.2) = true := by
  refine decide_eq_true ⟨h.ne, ?_⟩
  rw [run_withN hc hN _ b.2.2 b.2.1 b.1 rfl h.way]
  have := h.wd
  cases q : b.1 with
  | st t => rw [q] at this; cases this
  | over => rfl
  | dry => rfl
/-- the other word -/
def otherR : Rs → Rs
  | .over => .dry
  | _ => .over
theorem otherR_word (r : Rs) : isWord (otherR r) = true := by cases r <;> rfl
theorem Best.okOther {c : Cl} {n : Option Int} {b : Rs × Int × List Int} (h : Best c n b) : okPap c n (.run (otherR b.1) b.2.1 b.2.2) := ⟨otherR_word _, h.way.lv1, h.way.lv2, h.way.inf, Nat.le_trans h.ln (by decide)⟩
theorem Best.other {c : Cl} {n : Option Int} {b : Rs × Int × List Int} (h : Best c n b) : resPap c n (.run (otherR b.1) b.2.1 b.2.2) = false := by
  refine decide_eq_false fun z => ?_
  rw [h.way.run] at z
  have := h.wd
  cases q : b.1 with
  | st t => rw [q] at this; cases this
  | over => rw [q] at z; exact absurd (Option.some.inj z.2) (fun w => nomatch w)
  | dry => rw [q] at z; exact absurd (Option.some.inj z.2) (fun w => nomatch w)
theorem Best.okShort {c : Cl} {n : Option Int} {b : Rs × Int × List Int} (h : Best c n b) : okPap c n (.run b.1 b.2.1 b.2.2.dropLast) := ⟨h.wd, h.way.lv1, h.way.lv2, fun i hi => h.way.inf i (List.dropLast_subset _ hi), Nat.le_trans (by rw [List.length_dropLast]; omega) (Nat.le_trans h.ln (by decide))⟩
theorem Best.short {c : Cl} {n : Option Int} {b : Rs × Int × List Int} (h : Best c n b) : resPap c n (.run b.1 b.2.1 b.2.2.dropLast) = false := by
  refine decide_eq_false fun z => ?_
  obtain ⟨s, hs⟩ := runR_dropLast b.2.2 h.ne h.way.run
  have h2 := z.2
  rw [hs] at h2
  have := h.wd
  rw [← Option.some.inj h2] at this
  cases this
end Pm
set_option maxHeartbeats 4000000
/-! ME: the table of a safe claim -/
namespace Pm
open PySem PySem.Spec PyProof.Rows L2
theorem dlt_trans {a b c : PyData} (h1 : W.dataLt a b = true) (h2 : W.dataLt b c = true) : W.dataLt a c = true := lex_trans (O := itemOrd) _ _ _ h1 h2
theorem dlt_irr (a : PyData) : W.dataLt a a = false := lex_irrefl (O := itemOrd) _
theorem dlt_total {a b : PyData} (h1 : W.dataLt a b = false) (h2 : W.dataLt b a = false) : W.keyToks a = W.keyToks b := lex_total (O := itemOrd) _ _ h1 h2
def leS (a b : Sst) : Bool := !W.dataLt (encS b) (encS a)
theorem leS_eq : W.dataLe false encS = leS := rfl
theorem leS_trans (a b c : Sst) (h1 : leS a b = true) (h2 : leS b c = true) : leS a c = true := by
  unfold leS at *
  rw [Bool.not_eq_true'] at *
  cases q : W.dataLt (encS c) (encS a) with
  | false => rfl
  | true =>
    cases q2 : W.dataLt (encS a) (encS b) with
    | true => rw [dlt_trans q q2] at h2; cases h2
    | false =>
      have := dlt_total q2 h1
      unfold W.dataLt at q h2
      rw [this] at q
      rw [q] at h2
      cases h2
theorem leS_total (a b : Sst) : (leS a b || leS b a) = true := by
  unfold leS
  cases q : W.dataLt (encS b) (encS a) with
  | false => rfl
  | true =>
    cases q2 : W.dataLt (encS a) (encS b) with
    | false => rfl
    | true =>
      have := dlt_trans q q2
      rw [dlt_irr] at this
      cases this
theorem sortS_pw (l : List Sst) : (sortS l).Pairwise fun a b => leS a b = true := List.pairwise_mergeSort leS_trans leS_total l
theorem sortS_perm (l : List Sst) : (sortS l).Perm l := List.mergeSort_perm l _
theorem mem_sortS {l : List Sst} {s : Sst} : s ∈ sortS l ↔ s ∈ l := (sortS_perm l).mem_iff
theorem sortS_nd {l : List Sst} (h : l.Nodup) : (sortS l).Nodup := (sortS_perm l).nodup_iff.mpr h
theorem toks_ne {x y : PyData} (h : W.alike x y = true) (e : PyData.eqv x y = false) : W.keyToks x ≠ W.keyToks y := fun z => by
  have := (W.toks_eqv x y h).2 e [] [Sum.inl 0]
  rw [z, W.lex_pre, lex_irrefl (O := itemOrd)] at this
  cases this
theorem strict_S {c : Cl} {n : Option Int} {a b : Sst} (ha : Sml c n a) (hb : Sml c n b) (hne : a ≠ b) (h : leS a b = true) : W.dataLt (encS a) (encS b) = true := by
  unfold leS at h
  rw [Bool.not_eq_true'] at h
  cases q : W.dataLt (encS a) (encS b) with
  | true => rfl
  | false => exact absurd (dlt_total q h) (toks_ne (alike_S ha hb) (by rw [eqv_S, decide_eq_false hne]))
theorem same_4 {a b : Sst} (hn : numOf a = numOf b) (h1 : a.lv = b.lv) (h2 : a.past = b.past) (h3 : a.runs = b.runs) (h4 : a.rests = b.rests) : a = b := by
  cases a
  cases b
  simp only at h1 h2 h3 h4
  subst h1 h2 h3 h4
  unfold numOf at hn
  simp only [Sst.mk.injEq, true_and]
  rename_i r r'
  cases r <;> cases r' <;> simp at hn ⊢
  omega
theorem lt_4 {a b : Sst} (h1 : W.alike (.int a.lv) (.int b.lv) = true) (h2 : W.alike (encI a.past) (encI b.past) = true) (h3 : W.alike (encI a.runs) (encI b.runs) = true) (h4 : W.alike (encI a.rests) (encI b.rests) = true) (hn : numOf a = numOf b) (hne : a ≠ b) :
    W.dataLt (enc4 a) (enc4 b) = W.dataLt (encS a) (encS b) := by
  unfold enc4 encS
  rw [W.dataLt_tuple, W.dataLt_tuple, W.dataLt_cons h1, W.dataLt_cons h1, W.dataLt_cons h2, W.dataLt_cons h2, W.dataLt_cons h3, W.dataLt_cons h3, W.dataLt_cons h4, W.dataLt_cons h4]
  rw [eqv_I, eqv_I, eqv_I, eqv_int]
  by_cases e1 : a.lv = b.lv
  · by_cases e2 : a.past = b.past
    · by_cases e3 : a.runs = b.runs
      · by_cases e4 : a.rests = b.rests
        · exact absurd (same_4 hn e1 e2 e3 e4) hne
        · simp only [e4, decide_false, Bool.false_eq_true, if_false]
      · simp only [e3, decide_false, Bool.false_eq_true, if_false]
    · simp only [e2, decide_false, Bool.false_eq_true, if_false]
  · simp only [beq_eq_false_iff_ne.mpr e1, Bool.false_eq_true, if_false]
theorem alike_II : ∀ (a b : List Int), W.alike (encI a) (encI b) = true := by
  intro a b
  unfold encI
  rw [W.alike]
  induction a generalizing b with
  | nil => cases b <;> simp [W.alikeAll]
  | cons x xs ih => cases b with
    | nil => simp [W.alikeAll]
    | cons y ys => simp only [List.map_cons, W.alikeAll, W.alike, ih ys, Bool.and_true]
theorem sum_nonneg : ∀ {l : List Int}, (∀ x ∈ l, 0 ≤ x) → 0 ≤ l.sum
  | [], _ => by simp
  | a :: l, h => by
    have h1 := h a List.mem_cons_self
    have h2 := sum_nonneg fun x hx => h x (List.mem_cons_of_mem _ hx)
    rw [List.sum_cons]
    omega
theorem le_sum : ∀ {l : List Int} {x : Int}, (∀ x ∈ l, 0 ≤ x) → x ∈ l → x ≤ l.sum
  | a :: l, x, h, hx => by
    have h1 := h a List.mem_cons_self
    have h2 := sum_nonneg fun x hx => h x (List.mem_cons_of_mem _ hx)
    rw [List.sum_cons]
    rcases List.mem_cons.mp hx with z | z
    · omega
    · have := le_sum (fun x hx => h x (List.mem_cons_of_mem _ hx)) z
      omega
theorem asc_S {c : Cl} {n : Option Int} {a b : Sst} (ha : Sml c n a) (hb : Sml c n b) (hne : a ≠ b) (h : leS a b = true) : Asc a b := by
  have hn : numOf a = numOf b := by rw [ha.num, hb.num]
  have e1 : W.alike (.int a.lv) (.int b.lv) = true := by simp [W.alike]
  have e2 : W.alike (encI a.past) (encI b.past) = true := alike_II _ _
  have e3 : W.alike (encI a.runs) (encI b.runs) = true := alike_II _ _
  have e4 : W.alike (encI a.rests) (encI b.rests) = true := alike_II _ _
  refine ⟨?_, by rw [lt_4 e1 e2 e3 e4 hn hne]; exact strict_S ha hb hne h⟩
  unfold enc4
  simp only [W.alike, W.alikeAll, e2, e3, e4, Bool.and_true]
theorem sok_of {c : Cl} (hc : SmC c) {n : Option Int} (hn : NumOk n) {s : Sst} (h : Sml c n s) : SOk c.w s := by
  have h1 := h.rsum
  have h2 := h.rests
  refine ⟨h.shp, h.lv, h.past, fun x hx => ?_, fun x hx => ?_, fun r hr => ?_⟩
  · have h0 := h.runs
    have : x ≤ s.runs.sum := le_sum h0 hx
    exact ⟨h0 x hx, by omega⟩
  · have := h2 x hx
    omega
  · have h3 := h.num
    have h4 := h.rdy r hr
    unfold numOf at h3
    rw [hr] at h3
    have h5 : 0 ≤ s.runs.sum + s.rests.sum + r ∧ s.runs.sum + s.rests.sum + r ≤ 50 := hn _ h3.symm
    have h6 := sum_nonneg h.runs
    have h7 := sum_nonneg fun x hx => (h2 x hx).1
    omega
theorem pw_zip {α : Type} {R : α → α → Prop} : ∀ {l : List α}, l.Pairwise R → ∀ p ∈ l.zip (l.drop 1), R p.1 p.2
  | [], _, p, hp => by simp at hp
  | [a], _, p, hp => by simp at hp
  | a :: b :: l, h, p, hp => by
    rw [List.drop_one, List.tail_cons, List.zip_cons_cons] at hp
    cases h with
    | cons h1 h2 =>
      rcases List.mem_cons.mp hp with z | z
      · rw [z]
        exact h1 b List.mem_cons_self
      · exact pw_zip h2 p (by rw [List.drop_one, List.tail_cons]; exact z)
/-- a part of the table of a safe claim -/
theorem tab_part {c : Cl} (hc : SmC c) {n : Option Int} (hn : NumOk n) (hr : (fin c n).runs = []) {l : List Sst} (h : l.Sublist (tableS (fin c n))) : TabOk c n l := by
  have G := fin_good hc hn
  have hm : ∀ s ∈ l, ∃ e ∈ (fin c n).ents, e.st = s := fun s hs => List.mem_map.mp (mem_sortS.mp (h.subset hs))
  have hsml : ∀ s ∈ l, Sml c n s := fun s hs => by
    obtain ⟨e, h1, rfl⟩ := hm s hs
    exact G.sm e h1
  have hnd : l.Nodup := h.nodup (sortS_nd G.nd)
  have hpw : l.Pairwise fun a b => leS a b = true := (sortS_pw _).sublist h
  refine ⟨hc.toCOk, fun s hs => ⟨sok_of hc hn (hsml s hs), (hsml s hs).num⟩, hnd, pw_zip ?_, fun s hs i hi => ?_, ?_⟩
  · have := List.Pairwise.and hpw hnd
    refine List.Pairwise.imp_of_mem ?_ this
    intro a b ha hb q
    exact asc_S (hsml a ha) (hsml b hb) q.2 q.1
  · obtain ⟨e, h1, rfl⟩ := hm s hs
    have h2 := (fin_shut hc hn e h1 i hi).2.1
    cases q : beatS c.w e.st i with
    | st t => exact ⟨t, rfl⟩
    | over => rw [q, hr] at h2; cases h2 rfl
    | dry => rw [q, hr] at h2; cases h2 rfl
  · refine Nat.le_trans h.length_le ?_
    have := (sortS_perm ((fin c n).ents.map (·.st))).length_eq
    unfold tableS
    rw [this, List.length_map]
    exact G.few hc
theorem tab_mem {c : Cl} {n : Option Int} {s : Sst} : s ∈ tableS (fin c n) ↔ (findE (fin c n).ents s).isSome = true := by
  rw [findE_isSome]
  exact mem_sortS.trans List.mem_map
theorem tab_beg {c : Cl} (hc : SmC c) {n : Option Int} (hn : NumOk n) {lv : Int} (h : lv ∈ inf c.frm c.to) : begS c.w n lv ∈ tableS (fin c n) := tab_mem.mpr (fin_beg hc hn lv h)
theorem tab_beat {c : Cl} (hc : SmC c) {n : Option Int} (hn : NumOk n) (hr : (fin c n).runs = []) {s : Sst} (hs : s ∈ tableS (fin c n)) {i : Int} (hi : i ∈ inf c.lo c.hi) : ∃ t, beatS c.w s i = .st t ∧ t ∈ tableS (fin c n) := by
  obtain ⟨t, ht⟩ := (tab_part hc hn hr (List.Sublist.refl _)).cl s hs i hi
  obtain ⟨e, h1, h2⟩ := findE_isSome.mp (tab_mem.mp hs)
  refine ⟨t, ht, tab_mem.mpr ((fin_shut hc hn e h1 i hi).1 t (by rw [h2]; exact ht))⟩
theorem tab_ok {c : Cl} (hc : SmC c) {n : Option Int} (hn : NumOk n) (hr : (fin c n).runs = []) : okTable c n (tableS (fin c n)) = true := by
  unfold okTable
  rw [Bool.and_eq_true, List.all_eq_true, List.all_eq_true]
  refine ⟨fun lv h => decide_eq_true (tab_beg hc hn h), fun s hs => ?_⟩
  rw [List.all_eq_true]
  intro i hi
  obtain ⟨t, h1, h2⟩ := tab_beat hc hn hr hs hi
  rw [h1]
  exact decide_eq_true h2
/-- a table that lacks one state of the search -/
theorem tab_less {c : Cl} (hc : SmC c) {n : Option Int} (hn : NumOk n) {l : List Sst} (hl : ∀ s ∈ tableS (fin c n), s ∈ l ∨ s ∉ l) {s0 : Sst} (h0 : s0 ∈ tableS (fin c n)) (h1 : s0 ∉ l) (h2 : ∀ s ∈ tableS (fin c n), s ≠ s0 → s ∈ l) : okTable c n l = false := by
  cases q : okTable c n l with
  | false => rfl
  | true =>
    exfalso
    unfold okTable at q
    rw [Bool.and_eq_true, List.all_eq_true, List.all_eq_true] at q
    obtain ⟨q1, q2⟩ := q
    have G := fin_good hc hn
    have R := fin_real hc hn
    obtain ⟨e, he, rfl⟩ := findE_isSome.mp (tab_mem.mp h0)
    have he : e ∈ (fin c n).ents := he
    cases hp : e.par with
    | none =>
      obtain ⟨a1, a2⟩ := G.pc0 e he hp
      have w := R.e e he
      have hw := w.run
      rw [a1] at hw
      have : begS c.w n e.lv = e.st := by
        simp only [runR, Option.some.injEq, Rs.st.injEq] at hw
        exact hw
      have h3 := of_decide_eq_true (q1 e.lv (mem_inf.mpr ⟨w.lv1, w.lv2⟩))
      rw [this] at h3
      exact h1 h3
    | some p =>
      obtain ⟨qs, i⟩ := p
      obtain ⟨e', h3, h4, h5, h6⟩ := G.pc1 e he qs i hp
      have w := R.e e he
      rw [h5, h6] at w
      have w' := R.e e' h3
      have hb := runR_snoc i _ w'.run
      rw [w.run] at hb
      have hb : beatS c.w e'.st i = .st e.st := (Option.some.inj hb).symm
      have hi : i ∈ inf c.lo c.hi := mem_inf.mpr (w.inf i (List.mem_append_right _ (List.mem_singleton.mpr rfl)))
      have hne : e'.st ≠ e.st := fun z => by
        have m1 := mem_find G.nd h3
        have m2 := mem_find G.nd he
        rw [z, m2] at m1
        have : e = e' := Option.some.inj m1
        rw [this] at h5
        have := congrArg List.length h5
        simp at this
      have h7 := h2 e'.st (tab_mem.mpr (findE_isSome.mpr ⟨e', h3, rfl⟩)) hne
      have h8 := q2 e'.st h7
      rw [List.all_eq_true] at h8
      have h9 := h8 i hi
      rw [hb] at h9
      exact h1 (of_decide_eq_true h9)
end Pm
set_option maxHeartbeats 4000000
/-! MF: a desk led along a run -/
namespace Pm
open PySem PySem.Spec PyProof.Rows L2
theorem beatOk_of {c : Cl} (hc : SmC c) {n : Option Int} (hn : NumOk n) {s : Sst} (h : Sml c n s) {i : Int} (hi : i ∈ inf c.lo c.hi) : BeatOk c s i := by
  have h0 := hc.infl
  have h1 := hc.hi3
  have h2 := mem_inf.mp hi
  refine ⟨hc.w, sok_of hc hn h, by omega, fun t ht => ?_⟩
  have ht := h.beat hc hi ht
  have h3 := ht.rsum
  have h4 := ht.lv
  have h5 := hc.top5
  exact ⟨⟨sum_nonneg ht.runs, by omega⟩, h4.1, by omega⟩
/-- the answers to the beats, and the desk after each -/
def dRun (D : DkS) : List Int → DkS × List Str
  | [] => (D, [])
  | i :: is => ((dRun (stepD D (.beat i)).1 is).1, (stepD D (.beat i)).2 :: (dRun (stepD D (.beat i)).1 is).2)
def dPre (D : DkS) : List Int → Prop
  | [] => True
  | i :: is => PreD D (.beat i) ∧ dPre (stepD D (.beat i)).1 is
theorem dRun_way {c : Cl} (hc : SmC c) {n : Option Int} (hn : NumOk n) : ∀ (is : List Int) (s : Sst) (r : Rs), Sml c n s → (∀ i ∈ is, c.lo ≤ i ∧ i ≤ c.hi) → is ≠ [] → runR c.w (.st s) is = some r → isWord r = true →
    dPre ⟨some c, some s⟩ is ∧ ∃ pre, (dRun ⟨some c, some s⟩ is).2 = pre ++ [wordOf r] ∧ ∀ a ∈ pre, ∃ x y, fig x ∧ fig y ∧ a = lineC [x, y]
  | [i], s, r, hs, hi, _, hr, hw => by
    have him : i ∈ inf c.lo c.hi := mem_inf.mpr (hi i List.mem_cons_self)
    have hB := beatOk_of hc hn hs him
    have hb : beatS c.w s i = r := by
      simp only [runR, Option.some.injEq] at hr
      exact hr
    refine ⟨⟨⟨c, s, rfl, rfl, hB⟩, True.intro⟩, [], ?_, fun a ha => (nomatch ha)⟩
    show [(beatD _ c s i).2] = _
    unfold beatD
    rw [hb]
    cases r with
    | st t => cases hw
    | over => rfl
    | dry => rfl
  | i :: j :: is, s, r, hs, hi, _, hr, hw => by
    have him : i ∈ inf c.lo c.hi := mem_inf.mpr (hi i List.mem_cons_self)
    have hB := beatOk_of hc hn hs him
    have hr : runR c.w (beatS c.w s i) (j :: is) = some r := hr
    cases hb : beatS c.w s i with
    | over => rw [hb] at hr; cases hr
    | dry => rw [hb] at hr; cases hr
    | st t =>
      rw [hb] at hr
      have ht := hs.beat hc him hb
      have hst : stepD ⟨some c, some s⟩ (.beat i) = (⟨some c, some t⟩, lineC [t.runs.sum, t.lv]) := by
        show beatD _ c s i = _
        unfold beatD
        rw [hb]
      obtain ⟨h1, pre, h2, h3⟩ := dRun_way hc hn (j :: is) t r ht (fun k hk => hi k (List.mem_cons_of_mem _ hk)) (by simp) hr hw
      refine ⟨⟨⟨c, s, rfl, rfl, hB⟩, by rw [hst]; exact h1⟩, lineC [t.runs.sum, t.lv] :: pre, ?_, fun a ha => ?_⟩
      · show (stepD ⟨some c, some s⟩ (.beat i)).2 :: (dRun (stepD ⟨some c, some s⟩ (.beat i)).1 (j :: is)).2 = _
        rw [hst, h2, List.cons_append]
      · rcases List.mem_cons.mp ha with z | z
        · obtain ⟨f1, f2⟩ := hB.fig t hb
          exact ⟨_, _, f1, f2, z⟩
        · exact h3 a z

/-- a row told is neither word -/
theorem row_ne {x y : Int} (hx : fig x) (hy : fig y) : lineC [x, y] ≠ "over" ∧ lineC [x, y] ≠ "dry" := by
  refine fig_cases (Q := fun x => lineC [x, y] ≠ "over" ∧ lineC [x, y] ≠ "dry") ?_ ?_ ?_ ?_ ?_ ?_ ?_ ?_ ?_ ?_ hx.1 hx.2 <;>
  (refine fig_cases (Q := fun y => lineC [_, y] ≠ "over" ∧ lineC [_, y] ≠ "dry") ?_ ?_ ?_ ?_ ?_ ?_ ?_ ?_ ?_ ?_ hy.1 hy.2 <;> decide +kernel)
theorem join_two (sep a b : Str) (l : List Str) : Txt.join sep (a :: b :: l) = a ++ sep ++ Txt.join sep (b :: l) := by
  show Builtin.Str.glued sep (a :: b :: l) = a ++ sep ++ Builtin.Str.glued sep (b :: l)
  rw [StrLaws.glued_eq_join, StrLaws.glued_eq_join]
  rfl
theorem line_well (w : Wl) : ("well " : Str) ++ lineC (wNums w) = lineM (.well w) := by
  show _ = Txt.join " " ("well" :: (wNums w).map dg)
  unfold lineC wNums
  rw [List.map_cons, join_two]
  rw [show ("well " : Str) = "well" ++ " " from by decide +kernel]
theorem line_infl (a b : Int) : ("inflows " : Str) ++ lineC [a, b] = lineM (.infl a b) := by
  show _ = Txt.join " " ("inflows" :: [dg a, dg b])
  unfold lineC
  rw [join_two]
  rw [show ("inflows " : Str) = "inflows" ++ " " from by decide +kernel]
  rfl
theorem line_lvls (a b : Int) : ("levels " : Str) ++ lineC [a, b] = lineM (.lvls a b) := by
  show _ = Txt.join " " ("levels" :: [dg a, dg b])
  unfold lineC
  rw [join_two]
  rw [show ("levels " : Str) = "levels" ++ " " from by decide +kernel]
  rfl
theorem line_beg (n : Option Int) (lv : Int) : (("begin " : Str) ++ numT n ++ " ") ++ dg lv = lineM (.beg n lv) := by
  show _ = Txt.join " " ("begin" :: [numT n, dg lv])
  rw [join_two, join_two]
  rw [show ("begin " : Str) = "begin" ++ " " from by decide +kernel]
  show _ = _ ++ (_ ++ dg lv)
  simp only [PySem.Str.append_assoc]
theorem line_beat (i : Int) : ("beat " : Str) ++ dg i = lineM (.beat i) := by
  show _ = Txt.join " " ("beat" :: [dg i])
  rw [join_two]
  rw [show ("beat " : Str) = "beat" ++ " " from by decide +kernel]
  rfl
end Pm
set_option maxHeartbeats 4000000
/-! LH0: not in a list; a desk told commands in a comprehension -/
namespace L2
open PySem PySem.Spec PyProof.Rows
section
variable {K : PySem.W.Frag} {X : Cx}
def gNotInL : PyData → PyData → Option PyData
  | d, .list xs => if SeqAt.shaped d = true ∧ SeqAt.shaped (.list xs) = true then some (.bool (!xs.any fun y => PyData.eqv y d)) else none
  | _, _ => none
@[simp] theorem gNotInL_lst (d : PyData) (xs : List PyData) : gNotInL d (.list xs) = if SeqAt.shaped d = true ∧ SeqAt.shaped (.list xs) = true then some (.bool (!xs.any fun y => PyData.eqv y d)) else none := by cases d <;> rfl
def rNotInL (K : PySem.W.Frag) : R2 := fun x y H Q => ∃ d ds, Dp K H x d ∧ Dp K H y (.list ds) ∧ SeqAt.shaped d = true ∧ SeqAt.shaped (.list ds) = true ∧ Q (.bl (!ds.any fun z => PyData.eqv z d)) H
theorem op_notInL (hu : X.A.units + 66 < cLine) : OpR X (compareOp .NotIn) (rNotInL X.K) := by
  intro pins s σ H x y v u Q I rx ry h
  obtain ⟨d, ds, hd, he, h1, h2, q⟩ := h
  obtain ⟨as, r1⟩ := Dp.reads I d x v hd rx
  obtain ⟨bs, r2⟩ := Dp.reads I (.list ds) y u he ry
  exact SeqAt.notIn_list_reads r2 r1 (SeqAt.canLay_of_shaped h2) (SeqAt.canLay_of_shaped h1) (shaped_room h1 hu) ⟨.bl _, H, I, rfl, q⟩
theorem ov_notInL : OpD K (rNotInL K) gNotInL := by
  intro x y a b d H Q ha hb e q
  cases hb <;> first | (cases a <;> cases e; done) | skip
  rename_i p xs ds hx dx
  have e1 : (if SeqAt.shaped a = true ∧ SeqAt.shaped (.list ds) = true then some (PyData.bool (!ds.any fun y => PyData.eqv y a)) else none) = some d := by cases a <;> exact e
  split at e1
  · rename_i hz
    cases e1
    exact ⟨_, _, ha, .lst hx dx, hz.1, hz.2, q _ H (Same.refl H) (.bl _)⟩
  · cases e1
end
end L2
namespace Pm
open PySem PySem.Spec PyProof.Rows L2
/-- commands told one behind the other: the desk behind all, the answers -/
def dGo (D : DkS) : List Cm → DkS × List Str
  | [] => (D, [])
  | cm :: r => ((dGo (stepD D cm).1 r).1, (stepD D cm).2 :: (dGo (stepD D cm).1 r).2)
def dPreL (D : DkS) : List Cm → Prop
  | [] => True
  | cm :: r => PreD D cm ∧ dPreL (stepD D cm).1 r
theorem dGo_beats : ∀ (is : List Int) (D : DkS), dGo D (is.map .beat) = dRun D is
  | [], D => rfl
  | i :: is, D => by
    show ((dGo (stepD D (.beat i)).1 (is.map .beat)).1, (stepD D (.beat i)).2 :: (dGo (stepD D (.beat i)).1 (is.map .beat)).2) = _
    rw [dGo_beats is]
    rfl
theorem dPre_beats : ∀ (is : List Int) (D : DkS), dPre D is → dPreL D (is.map .beat)
  | [], D, _ => True.intro
  | i :: is, D, h => ⟨h.1, dPre_beats is _ h.2⟩
theorem dGo_append : ∀ (a b : List Cm) (D : DkS), dGo D (a ++ b) = ((dGo (dGo D a).1 b).1, (dGo D a).2 ++ (dGo (dGo D a).1 b).2)
  | [], b, D => rfl
  | cm :: a, b, D => by
    show ((dGo (stepD D cm).1 (a ++ b)).1, (stepD D cm).2 :: (dGo (stepD D cm).1 (a ++ b)).2) = _
    rw [dGo_append a b]
    rfl
theorem dPre_append : ∀ (a b : List Cm) (D : DkS), dPreL D (a ++ b) → dPreL (dGo D a).1 b
  | [], b, D, h => h
  | cm :: a, b, D, h => dPre_append a b _ h.2
theorem dGo_take {cms : List Cm} {i : Nat} {cm : Cm} (h : cms[i]? = some cm) (D : DkS) : dGo D (cms.take (i + 1)) = ((stepD (dGo D (cms.take i)).1 cm).1, (dGo D (cms.take i)).2 ++ [(stepD (dGo D (cms.take i)).1 cm).2]) := by
  rw [List.take_add_one, h]
  show dGo D (cms.take i ++ [cm]) = _
  rw [dGo_append]
  rfl
theorem dPre_at {cms : List Cm} {i : Nat} {cm : Cm} (h : cms[i]? = some cm) {D : DkS} (hp : dPreL D cms) : PreD (dGo D (cms.take i)).1 cm := by
  obtain ⟨hi, e⟩ := List.getElem?_eq_some_iff.mp h
  have e1 : cms = cms.take i ++ cm :: cms.drop (i + 1) := by
    rw [← e, ← List.drop_eq_getElem_cons hi, List.take_append_drop]
  rw [e1] at hp
  exact (dPre_append _ _ _ hp).1
theorem dGo_len : ∀ (cms : List Cm) (D : DkS), (dGo D cms).2.length = cms.length
  | [], D => rfl
  | cm :: r, D => by
    show ((dGo (stepD D cm).1 r).2).length + 1 = r.length + 1
    rw [dGo_len r]
theorem noL_OS (o : Option Sst) : noL (encOS o) = true := by
  cases o with
  | none => rfl
  | some s => exact noL_S s
/-- a walk through values that stays while the object at p changes -/
structure WalkP (J : It) (p : Addr) (H : Hp) (vs : List V) : Prop where
  go : ∀ i H2, Kp [p] H H2 → i < vs.length → J.go i H2
  stop : ∀ H2, Kp [p] H H2 → J.stop vs.length H2
  yld : ∀ i H2 x H3, Kp [p] H H2 → J.yld i H2 x H3 → H3 = H2 ∧ vs[i]? = some x
section
variable {P : Program} {w : World} {K : PySem.W.Frag} {mg : Str → Option Value} {base : Heap} {C : Addr} {H : Hp} {p : Addr}
theorem walkP_l {a : Addr} {vs : List V} (hn : NoDats [p] H) (h : SqL K H a vs) : WalkP (Itl K a) p H vs where
  go := fun i H2 k hi => ⟨vs, vs[i], h.kp k hn, by simp [hi]⟩
  stop := fun H2 k => ⟨vs, h.kp k hn, Nat.le_refl _⟩
  yld := fun i H2 x H3 k y => ⟨y.1, y.2 vs (h.kp k hn)⟩
theorem walkP_t {a : Addr} {vs : List V} (hn : NoDats [p] H) (h : SqT K H a vs) : WalkP (Itt K a) p H vs where
  go := fun i H2 k hi => ⟨vs, vs[i], h.kp k hn, by simp [hi]⟩
  stop := fun H2 k => ⟨vs, h.kp k hn, Nat.le_refl _⟩
  yld := fun i H2 x H3 k y => ⟨y.1, y.2 vs (h.kp k hn)⟩
theorem say_lc {wi : TI} {j : Nat} {targ : TE} {σ : L2.St} {H0 H1 : Hp} {Q : VK} {D0 : DkS} {cms : List Cm} {xs : List V} {J : It} (hwi : ∀ R, R J H1 → wi σ H0 R) (h0 : σ[0]? = some (some (.ref p))) (hj0 : 0 ∉ [j]) (hD : DkAt K C H1 p D0) (hpre : dPreL D0 cms) (hl : xs.length = cms.length) (hz : cms.length ≤ 100000) (W : WalkP J p H1 xs)
    (hT : ∀ (i : Nat) (x : V) (cm : Cm) (H' : Hp) (Q' : VK), xs[i]? = some x → cms[i]? = some cm → Kp [p] H1 H' → (∀ H'', Same H' H'' → Q' (.str (lineM cm)) H'') → targ ((L2.wipe σ [j]).set j (some x)) H' Q')
    (q : ∀ D H', H1 D = none → Kp [p] H1 H' → H' D = some (.lst ((dGo D0 cms).2.map V.str)) → DkAt K C H' p (dGo D0 cms).1 → Q (.ref D) H') :
    tLc wi (gName j) tYes (tMeth C "say" (spAns C K) [] E0 (tVar 0) (tCons targ tNil)) [j] σ H0 Q := by
  refine hwi _ ?_
  intro D hDn
  have hpD : D ≠ p := fun z => by
    obtain ⟨dx, vc, vs, h1, _⟩ := hD.ob
    rw [z, h1] at hDn
    cases hDn
  refine ⟨fun i m H' => m = xs.length - i ∧ i ≤ xs.length ∧ Kp [p] H1 H' ∧ DkAt K C H' p (dGo D0 (cms.take i)).1 ∧ H' D = some (.lst ((dGo D0 (cms.take i)).2.map V.str)), ⟨_, rfl, Nat.zero_le _, (Same.new hDn).kp, hD.same (Same.new hDn), upd_same⟩, ?_⟩
  rintro i m H' ⟨rfl, hi, k, d, hd⟩
  by_cases hlt : i < xs.length
  · have hc : i < cms.length := by omega
    have hcm : cms[i]? = some cms[i] := List.getElem?_eq_getElem hc
    refine .inr ⟨W.go i H' k hlt, fun H3 => i + 1 ≤ xs.length ∧ Kp [p] H1 H3 ∧ DkAt K C H3 p (dGo D0 (cms.take (i + 1))).1 ∧ H3 D = some (.lst ((dGo D0 (cms.take (i + 1))).2.map V.str)), fun H3 ⟨a, b⟩ => ⟨xs.length - (i + 1), by omega, rfl, a, b⟩, fun x H3 y => ?_⟩
    obtain ⟨rfl, hx⟩ := W.yld i H' x H3 k y
    refine ⟨?_, ?_⟩
    · show L2.wipe ((L2.wipe σ [j]).set j (some x)) [j] = L2.wipe σ [j]
      rw [wipe_set (by simp), wipe_wipe]
    · simp only [tYes, if_true]
      obtain ⟨dx, vc, vs, h1, _⟩ := d.ob
      refine ⟨.ref p, ?_, p, dx, _, rfl, h1, fldD_no _ _ (by decide +kernel) (by decide +kernel), ?_⟩
      · rw [List.getElem?_set_ne (fun z => hj0 (by rw [← z]; simp)), wipe_out hj0]
        exact h0
      refine hT i x _ _ _ hx hcm k fun H4 s4 => ?_
      refine ⟨p, _, cms[i], rfl, d.same s4, dPre_at hcm hpre, fun H5 d5 k5 => ?_⟩
      have h5D : H5 D = some (.lst ((dGo D0 (cms.take i)).2.map V.str)) := k5 D _ (s4 _ _ hd) fun z => hpD (List.mem_singleton.mp z)
      have kk : Kp [p] H1 H5 := (k.trans s4.kp).trans k5
      refine ⟨_, h5D, ?_, hlt, ?_, ?_, ?_⟩
      · rw [List.length_map, dGo_len, List.length_take]
        exact Nat.lt_of_lt_of_le (Nat.lt_of_le_of_lt (Nat.min_le_left _ _) hc) (zBig_le hz)
      · intro b o e nb
        rw [upd_ne (ne_of_none e hDn)]
        exact kk b o e nb
      · rw [dGo_take hcm]
        obtain ⟨dx5, vc5, vs5, g1, g2, g3⟩ := d5.ob
        have ns : NoSeq (H5 D) := by rw [h5D]; exact noSeq_lst
        refine ⟨dx5, vc5, vs5, by rw [upd_ne hpD.symm]; exact g1, Dp.upd ns g2 (noL_OC _), Dp.upd ns g3 (noL_OS _)⟩
      · rw [dGo_take hcm, List.map_append]
        exact upd_same
  · have e : i = xs.length := by omega
    subst e
    rw [hl, List.take_length] at d hd
    exact .inl ⟨W.stop H' k, q D H' hDn k hd d⟩
end
end Pm
set_option maxHeartbeats 4000000
/-! LH: the law's _law_led -/
namespace Pm
open PySem PySem.Spec PyProof.Rows L2
section
variable {P : Program} {w : World} {K : PySem.W.Frag} {mg : Str → Option Value} {base : Heap} {C : Addr}
theorem gAdd_s {a b : Str} (h : a.length + b.length ≤ 100000) : gAdd (.str a) (.str b) = some (.str (a ++ b)) := by
  rw [gAdd_str, if_pos (show _ ≤ zBig from h)]
theorem shaped_encC (c : Cl) : SeqAt.shaped (encC c) = true := by
  simp [SeqAt.shaped, encC, encW, PyData.canLay0, PyData.canLayAll0, PyData.depth, PyData.depthAll]
theorem eqv_encC (c : Cl) : PyData.eqv (encC c) (encC c) = true := by
  simp [encC, encW, PyData.eqv, PyData.eqvAll]
theorem eqv_strs (a b : Str) : PyData.eqv (.str a) (.str b) = decide (a = b) := by
  rw [PyData.eqv]
  by_cases h : a = b
  · subst h; simp
  · simp [h]
/-- a row told can be laid -/
theorem row_lay {x y : Int} (hx : fig x) (hy : fig y) : (PyData.str (lineC [x, y])).canLay0 = true := by
  refine fig_cases (Q := fun x => (PyData.str (lineC [x, y])).canLay0 = true) ?_ ?_ ?_ ?_ ?_ ?_ ?_ ?_ ?_ ?_ hx.1 hx.2 <;>
  (refine fig_cases (Q := fun y => (PyData.str (lineC [_, y])).canLay0 = true) ?_ ?_ ?_ ?_ ?_ ?_ ?_ ?_ ?_ ?_ hy.1 hy.2 <;> decide +kernel)
def ledCms (c : Cl) (n : Option Int) (lv : Int) : List Cm := [.well c.w, .infl c.lo c.hi, .lvls c.frm c.to, .beg n lv]
theorem led_pre {c : Cl} (hc : DrC c) {n : Option Int} (hf : ∀ k, n = some k → fig k) {lv : Int} (h1 : c.frm ≤ lv) (h2 : lv ≤ c.to) : dPreL ⟨none, none⟩ (ledCms c n lv) ∧ dGo ⟨none, none⟩ (ledCms c n lv) = (⟨some c, some (begS c.w n lv)⟩, [sDone, sDone, sDone, sDone]) := by
  have hw := hc.w
  have hl := hc.lvs
  have hi := hc.infl
  have ht := hw.top
  have figs := hc.figs
  have fw : ∀ i ∈ wNums c.w, fig i := figs _ (by simp [cNums, wNums])
  have f2 := figs [c.lo, c.hi] (by simp [cNums])
  have f3 := figs [c.frm, c.to] (by simp [cNums])
  have t5 := hc.top5
  refine ⟨⟨⟨hw, fw⟩, ⟨_, rfl, ⟨hw, hi, by show 0 ≤ (0 : Int) ∧ 0 ≤ c.w.top ∧ c.w.top ≤ c.w.top; omega⟩, f2 _ (by simp), f2 _ (by simp)⟩, ⟨_, rfl, ⟨hw, hi, hl⟩, f3 _ (by simp), f3 _ (by simp)⟩, ⟨_, rfl, hw, hf, ?_, ?_, ?_⟩, True.intro⟩, rfl⟩
  · omega
  · show lv ≤ c.w.top
    omega
  · omega
/-- a desk led along a run that holds -/
def spLed (C : Addr) (K : PySem.W.Frag) : Sp := fun vs H Q _ => ∃ (p : Addr) (vc vn vr : V) (c : Cl) (n : Option Int) (b : Rs × Int × List Int), vs = [.ref p, vc, vn, vr, .str (wordOf b.1)] ∧ DkAt K C H p ⟨none, none⟩ ∧ DrC c ∧ NumOk n ∧ (∀ k, n = some k → fig k) ∧ Best c n b ∧
  Dp K H vc (encC c) ∧ Dp K H vn (encO n) ∧ Dp K H vr (.tuple [.int b.2.1, encI b.2.2]) ∧ ∀ H', Kp [p] H H' → Q (.bl true) H'
theorem sc_lled : FnScope ["_law_desk", "_law_claim_so", "_law_number_so", "_law_run_so", "_law_word", "_law_lines", "_law_answers", "_law_inflow", "_law_line"] ["_law_desk", "_law_claim_so", "_law_number_so", "_law_run_so", "_law_word"] (defScope (top 88)) := ⟨rfl, rfl, rfl, by decide +kernel, rfl, by decide +kernel, by decide +kernel⟩
abbrev fRet : DE → Option PyData := fAnd (f2 gEq (f2 gIx (fVar 6) (fC (.int (-1)))) (fVar 4)) (fAnd (f2 gNotInL (fC (.str "over")) (fSl (fVar 6) fNoPart (fPart (fC (.int (-1)))))) (f2 gNotInL (fC (.str "dry")) (fSl (fVar 6) fNoPart (fPart (fC (.int (-1)))))))
theorem led_ret {pre : List Str} {wd : Str} (hw : (PyData.str wd).canLay0 = true) (hp : ∀ a ∈ pre, (PyData.str a).canLay0 = true ∧ a ≠ "over" ∧ a ≠ "dry") : fRet [none, none, none, none, some (.str wd), none, some (.list ((pre ++ [wd]).map .str)), none, none] = some (.bool true) := by
  have e1 : gIx (.list ((pre ++ [wd]).map PyData.str)) (.int (-1)) = some (.str wd) := by
    rw [gIx_lst, atI_m1 _ .none (by simp), List.map_append]
    show some ((pre.map PyData.str ++ [PyData.str wd]).getLastD .none) = _
    rw [List.getLastD_concat]
  have e2 : gSl (.list ((pre ++ [wd]).map PyData.str)) none (some (-1)) = some (.list (pre.map .str)) := by
    rw [gSl_lst]
    have := cutP_neg ((pre ++ [wd]).map PyData.str) 1 (by simp) (by decide)
    rw [show (-((1 : Nat) : Int)) = -1 from rfl] at this
    rw [this]
    simp
  have e3 := shaped_of_ok hw
  have e4 := shaped_strs fun x hx => (hp x hx).1
  have e5 : SeqAt.shaped (.str "over") = true := by decide +kernel
  have e6 : SeqAt.shaped (.str "dry") = true := by decide +kernel
  have e7 : (pre.map PyData.str).any (fun y => PyData.eqv y (.str "over")) = false := by
    rw [List.any_eq_false]
    intro y hy
    obtain ⟨a, ha, rfl⟩ := List.mem_map.mp hy
    rw [eqv_strs]
    simp [(hp a ha).2.1]
  have e8 : (pre.map PyData.str).any (fun y => PyData.eqv y (.str "dry")) = false := by
    rw [List.any_eq_false]
    intro y hy
    obtain ⟨a, ha, rfl⟩ := List.mem_map.mp hy
    rw [eqv_strs]
    simp [(hp a ha).2.2]
  simp -implicitDefEqProofs only [startD, sSeq, sSet, sRet, sIf, sSkip, sNever, sAsgG, sPar, fTup, f2, fSl, fPart, fNoPart, fVar, fC, fCons, fNil, fIf, fT, fCall, fIsa, fOrT, fAndT, fNotT, fAnd, fLc, fRng, fZip, fItemsT, fItemsL, List.map_cons, List.map_nil, List.length_cons, List.length_nil, List.replicate, List.cons_append, List.nil_append, List.getElem?_cons_zero, List.getElem?_cons_succ, List.set_cons_zero, List.set_cons_succ, Option.join_some, Option.join_none, Option.bind_some, Option.map_some, thenR_nx, thenR_rt, asI_int, asB_bool, gAdd_int, gSub_int, gMul_int, gCmpI_int, zBig, Nat.reduceAdd, Nat.reduceLeDiff, Nat.reduceSub, ite_true, ite_false, Bool.false_eq_true, decide_true, decide_false, gIs_none, decide_eq_true_eq, isD_tuple, isD_str, isD_int, isD_bool, isTuple_tuple, Bool.not_true, Bool.not_false, asTup_tup, asLst_lst, asRng_int, asZip_tup, wipeD, gNe, gEq, shaped_int, shaped_bool, shaped_none, and_self, condB_bool, gNotInL_lst, e1, e2, e3, e4, e5, e6, e7, e8, eqv_str]
theorem ok_led {f aS aP fG : Addr} {fd fdS fdG : FuncData} (F : Fun K "_law_led" "_law_led" (top 88) f fd) (T : Tx mg) (Z : TDk K mg C) (D_claim_text : FnD P w K mg base 4 "claim_text" g_claim_text) (mS : Meth K C "say" aS) (GS : FnOk P w K mg base CX0 9 aS fdS ["self", "line"] (spAns C K)) (bS : Binds K fdS ["self", "line"] [])
    (hp : PropOf K C "claim" aP fG) (GG : FnOk P w K mg base CX0 1 fG fdG ["self"] (spDClaim C K)) (bG : Binds K fdG ["self"] []) :
    FnOk P w K mg base CX0 10 f fd ["_law_desk", "_law_claim_so", "_law_number_so", "_law_run_so", "_law_word"] (spLed C K) := by
  refine F.ok sc_lled (fun vs H Q E h => ?_) (fun cdv A outer s H vs Q E hr h => ?_)
  · obtain ⟨p, vc, vn, vr, c, n, b, rfl, _⟩ := h
    rfl
  · obtain ⟨p, vc, vn, vr, c, n, b, rfl, hD, hc, hn, hf, hb, dc, dn, dr, q⟩ := h
    refine ⟨_, pss_cons (ps_set (i := 5) sc_lled.nd rfl (Or.inl rfl) (d_split (d_call D_claim_text (hr.mono (by decide)) (da_cons (pd 1) da_nil)) d_str))
      (pss_cons (ps_set (i := 5) sc_lled.nd rfl (Or.inl rfl) (pe_lst (da_cons (d_bin op_addAll ov_add d_str (d_ix (pd 5) d_int)) (da_cons (d_bin op_addAll ov_add d_str (d_ix (pd 5) d_int)) (da_cons (d_bin op_addAll ov_add d_str (d_ix (pd 5) d_int)) da_nil)))))
      (pss_cons (ps_expr (pe_bm PySem.F.plainAttrs_list PySem.F.slot_list_append PySem.F.type_list_append mt_append (pv 5) (pa_cons (d_bin op_addAll ov_add (d_bin op_addAll ov_add (d_bin op_addAll ov_add d_str (d_if (t_cmp (op_isN) (ov_is) (pd 2) d_non (nomark _)) d_str (d_callTy cv_str1 call_str_int T.b_str (da_cons (pd 2) da_nil) (hv := bt_str)))) d_str) (d_callTy cv_str1 call_str_int T.b_str (da_cons (d_ix (pd 3) d_int) da_nil) (hv := bt_str))) pa_nil)))
      (pss_cons (ps_if (PW.pt (pw_or (pt_cmpR (op_neD hr.units) (pe_lc (own := [("_law_line", 8)]) rfl sc_lled.nd (pi_list (pv 5)) (blkOk_by (N := ["_law_desk", "_law_claim_so", "_law_number_so", "_law_run_so", "_law_word", "_law_lines", "_law_answers", "_law_inflow", "_law_line"]) (sc := (defScope (top 88))) (by decide +kernel)) (fun _ _ _ _ _ => pg_name (i := 8) sc_lled.nd rfl (Or.inl rfl)) (fun _ _ _ _ _ => pts_nil) (fun _ _ _ _ _ => pe_meth (pv 0) Z.cl mS GS (hr.mono (by decide)) bS .nil pass0 (pa_cons (pv 8) pa_nil))) (pe_op op_rep (pe_lst (pa_cons pe_str pa_nil)) pe_int) (nomark _))
          (pw_or1 (pt_cmpR (op_neD hr.units) (pe_prop (pv 0) Z.cl hp GG (hr.mono (by decide)) bG .nil pass0 rfl) (pv 1) (nomark _))))) (pss_one (ps_ret pe_bl)) pss_nil)
      (pss_cons (ps_setLc (i := 6) (own := [("_law_inflow", 7)]) (g := gName 7) (tt := tYes) (te := tMeth C "say" (spAns C K) [] E0 (tVar 0) (tCons (tD K (f2 gAdd (fC (.str "beat ")) (fCall gStr1 (fCons (fVar 7) fNil)))) tNil)) rfl sc_lled.nd rfl rfl (sw_true rfl rfl rfl (by decide +kernel)) (pi_tup (pe_ix ix_tup (pv 3) pe_int (fun _ _ => rfl))) (blkOk_by (N := ["_law_desk", "_law_claim_so", "_law_number_so", "_law_run_so", "_law_word", "_law_lines", "_law_answers", "_law_inflow", "_law_line"]) (sc := (defScope (top 88))) (by decide +kernel)) (fun _ _ _ _ _ => pg_name (i := 7) sc_lled.nd rfl (Or.inl rfl)) (fun _ _ _ _ _ => pts_nil) (fun _ _ _ _ _ => pe_meth (pv 0) Z.cl mS GS (hr.mono (by decide)) bS .nil pass0 (pa_cons (d_bin op_addAll ov_add d_str (d_callTy cv_str1 call_str_int T.b_str (da_cons (pd 7) da_nil) (hv := bt_str))) pa_nil)))
      (pss_one (ps_ret (d_and (d_cmp (op_eqD hr.units) ov_eq (d_ix (pd 6) d_neg) (pd 4) (nomark _)) (d_and (d_cmp (op_notInL hr.u66) ov_notInL d_str (d_slice (pd 6) do_none (do_some d_neg)) (by rfl)) (pe_one (d_cmp (op_notInL hr.u66) ov_notInL d_str (d_slice (pd 6) do_none (do_some d_neg)) (by rfl))))))))))), ?_⟩
    have figs := hc.figs
    have fw := figs (wNums c.w) (by simp [cNums, wNums])
    have f2' := figs [c.lo, c.hi] (by simp [cNums])
    have f3' := figs [c.frm, c.to] (by simp [cNums])
    have hlv1 := hb.way.lv1
    have hlv2 := hb.way.lv2
    have hlvf : fig b.2.1 := by
      have h1 := hc.lvs
      have h2 := hc.top5
      exact ⟨by omega, by omega⟩
    have env0 : EnvD K H [some (.ref p), some vc, some vn, some vr, some (.str (wordOf b.1)), none, none, none, none] [none, some (encC c), none, none, none, none, none, none, none] := env_no (env_c dc (env_no (env_no (env_no (env_no (env_no (env_no (env_no env_nil))))))))
    -- lines
    refine ⟨_, .list (((cNums c).map lineC).map .str), env0, ?_, fun v1 H1 s1 d1 => ?_⟩
    · have e1 := g_claim_text_eq hc
      have e2 : gSplit (.str (txtC c)) (.str "\n") = some (.list (((cNums c).map lineC).map .str)) := by
        rw [gSplit_str, if_pos ⟨by decide +kernel, (txt_len hc).2⟩, split_txt hc]
      simp -implicitDefEqProofs only [startD, sSeq, sSet, sRet, sIf, sSkip, sNever, sAsgG, sPar, fTup, f2, fSl, fPart, fNoPart, fVar, fC, fCons, fNil, fIf, fT, fCall, fIsa, fOrT, fAndT, fNotT, fAnd, fLc, fRng, fZip, fItemsT, fItemsL, List.map_cons, List.map_nil, List.length_cons, List.length_nil, List.replicate, List.cons_append, List.nil_append, List.getElem?_cons_zero, List.getElem?_cons_succ, List.set_cons_zero, List.set_cons_succ, Option.join_some, Option.join_none, Option.bind_some, Option.map_some, thenR_nx, thenR_rt, asI_int, asB_bool, gAdd_int, gSub_int, gMul_int, gCmpI_int, zBig, Nat.reduceAdd, Nat.reduceLeDiff, Nat.reduceSub, ite_true, ite_false, Bool.false_eq_true, decide_true, decide_false, gIs_none, decide_eq_true_eq, isD_tuple, isD_str, isD_int, isD_bool, isTuple_tuple, Bool.not_true, Bool.not_false, asTup_tup, asLst_lst, asRng_int, asZip_tup, wipeD, gNe, gEq, shaped_int, shaped_bool, shaped_none, and_self, condB_bool, e1, e2]
    -- the three lines
    refine ⟨[none, none, none, none, none, some (.list (((cNums c).map lineC).map .str)), none, none, none], [.str (lineM (.well c.w)), .str (lineM (.infl c.lo c.hi)), .str (lineM (.lvls c.frm c.to))], env_no (env_no (env_no (env_no (env_no (env_c d1 (env_no (env_no (env_no env_nil)))))))), ?_, fun vs2 H2 s2 d2 => ?_⟩
    · have l1 := line_len fw (by simp [wNums])
      have l2 := line_len f2' (by simp)
      have l3 := line_len f3' (by simp)
      have k1 : ("well " : Str).length = 5 := by decide +kernel
      have k2 : ("inflows " : Str).length = 8 := by decide +kernel
      have k3 : ("levels " : Str).length = 7 := by decide +kernel
      have e1 : gIx (.list (((cNums c).map lineC).map PyData.str)) (.int 0) = some (.str (lineC (wNums c.w))) := rfl
      have e2 : gIx (.list (((cNums c).map lineC).map PyData.str)) (.int 1) = some (.str (lineC [c.lo, c.hi])) := rfl
      have e3 : gIx (.list (((cNums c).map lineC).map PyData.str)) (.int 2) = some (.str (lineC [c.frm, c.to])) := rfl
      have a1 := gAdd_s (a := "well ") (b := lineC (wNums c.w)) (by omega)
      have a2 := gAdd_s (a := "inflows ") (b := lineC [c.lo, c.hi]) (by omega)
      have a3 := gAdd_s (a := "levels ") (b := lineC [c.frm, c.to]) (by omega)
      rw [line_well] at a1
      rw [line_infl] at a2
      rw [line_lvls] at a3
      simp -implicitDefEqProofs only [startD, sSeq, sSet, sRet, sIf, sSkip, sNever, sAsgG, sPar, fTup, f2, fSl, fPart, fNoPart, fVar, fC, fCons, fNil, fIf, fT, fCall, fIsa, fOrT, fAndT, fNotT, fAnd, fLc, fRng, fZip, fItemsT, fItemsL, List.map_cons, List.map_nil, List.length_cons, List.length_nil, List.replicate, List.cons_append, List.nil_append, List.getElem?_cons_zero, List.getElem?_cons_succ, List.set_cons_zero, List.set_cons_succ, Option.join_some, Option.join_none, Option.bind_some, Option.map_some, thenR_nx, thenR_rt, asI_int, asB_bool, gAdd_int, gSub_int, gMul_int, gCmpI_int, zBig, Nat.reduceAdd, Nat.reduceLeDiff, Nat.reduceSub, ite_true, ite_false, Bool.false_eq_true, decide_true, decide_false, gIs_none, decide_eq_true_eq, isD_tuple, isD_str, isD_int, isD_bool, isTuple_tuple, Bool.not_true, Bool.not_false, asTup_tup, asLst_lst, asRng_int, asZip_tup, wipeD, gNe, gEq, shaped_int, shaped_bool, shaped_none, and_self, condB_bool, e1, e2, e3, a1, a2, a3]
    obtain ⟨x0, x1, x2, rfl, g0, g1, g2⟩ := dpa3 d2
    obtain rfl := dp_str g0
    obtain rfl := dp_str g1
    obtain rfl := dp_str g2
    refine ⟨(by show 3 ≤ sizeLine; decide), fun q5 hq5 => ?_⟩
    have s12 := s1.trans s2
    have s3 : Same H2 (upd H2 q5 (.lst [.str (lineM (.well c.w)), .str (lineM (.infl c.lo c.hi)), .str (lineM (.lvls c.frm c.to))])) := Same.new hq5
    have h3q : (upd H2 q5 (.lst [.str (lineM (.well c.w)), .str (lineM (.infl c.lo c.hi)), .str (lineM (.lvls c.frm c.to))])) q5 = some (.lst [.str (lineM (.well c.w)), .str (lineM (.infl c.lo c.hi)), .str (lineM (.lvls c.frm c.to))]) := upd_same
    have n5 : H q5 = none := s12.free hq5
    generalize upd H2 q5 (.lst [.str (lineM (.well c.w)), .str (lineM (.infl c.lo c.hi)), .str (lineM (.lvls c.frm c.to))]) = H3 at s3 h3q
    have s13 := s12.trans s3
    -- the fourth
    refine ⟨_, rfl, .inl ⟨rfl, _, SqL.of h3q⟩, [none, none, some (encO n), some (.tuple [.int b.2.1, encI b.2.2]), none, none, none, none, none], .str (lineM (.beg n b.2.1)), env_no (env_no (env_c (dn.same s13) (env_c (dr.same s13) (env_no (env_no (env_no (env_no (env_no env_nil)))))))), ?_, fun v4 H4 s4 d4 => ?_⟩
    · have e1 : gIx (.tuple [.int b.2.1, encI b.2.2]) (.int 0) = some (.int b.2.1) := rfl
      have e2 : gStr1 [.int b.2.1] = some (.str (dg b.2.1)) := by rw [gStr1_int, if_pos (dg_log hlvf.1 hlvf.2)]; rfl
      have e3 : (if isNoneD (encO n) = true then some (PyData.str "endless") else gStr1 [encO n]) = some (.str (numT n)) := by
        cases n with
        | none => rfl
        | some k =>
          have fk := hf k rfl
          show (if false = true then _ else gStr1 [.int k]) = _
          rw [if_neg Bool.false_ne_true, gStr1_int, if_pos (dg_log fk.1 fk.2)]
          rfl
      have ln : (numT n).length ≤ 7 := by
        cases n with
        | none => decide +kernel
        | some k =>
          have fk := hf k rfl
          have := dg_len fk.1 fk.2
          show (dg k).length ≤ 7
          omega
      have ld := dg_len hlvf.1 hlvf.2
      have k1 : ("begin " : Str).length = 6 := by decide +kernel
      have k2 : (" " : Str).length = 1 := by decide +kernel
      have a1 := gAdd_s (a := "begin ") (b := numT n) (by omega)
      have a2 := gAdd_s (a := "begin " ++ numT n) (b := " ") (by rw [PySem.Str.length_append]; omega)
      have a3 := gAdd_s (a := "begin " ++ numT n ++ " ") (b := dg b.2.1) (by rw [PySem.Str.length_append, PySem.Str.length_append]; omega)
      rw [line_beg] at a3
      simp -implicitDefEqProofs only [startD, sSeq, sSet, sRet, sIf, sSkip, sNever, sAsgG, sPar, fTup, f2, fSl, fPart, fNoPart, fVar, fC, fCons, fNil, fIf, fT, fCall, fIsa, fOrT, fAndT, fNotT, fAnd, fLc, fRng, fZip, fItemsT, fItemsL, List.map_cons, List.map_nil, List.length_cons, List.length_nil, List.replicate, List.cons_append, List.nil_append, List.getElem?_cons_zero, List.getElem?_cons_succ, List.set_cons_zero, List.set_cons_succ, Option.join_some, Option.join_none, Option.bind_some, Option.map_some, thenR_nx, thenR_rt, asI_int, asB_bool, gAdd_int, gSub_int, gMul_int, gCmpI_int, zBig, Nat.reduceAdd, Nat.reduceLeDiff, Nat.reduceSub, ite_true, ite_false, Bool.false_eq_true, decide_true, decide_false, gIs_none, decide_eq_true_eq, isD_tuple, isD_str, isD_int, isD_bool, isTuple_tuple, Bool.not_true, Bool.not_false, asTup_tup, asLst_lst, asRng_int, asZip_tup, wipeD, gNe, gEq, shaped_int, shaped_bool, shaped_none, and_self, condB_bool, e1, e2, e3, a1, a2, a3]
    obtain rfl := dp_str d4
    have h4q := s4 _ _ h3q
    have s14 := s13.trans s4
    refine ⟨q5, _, _, rfl, rfl, h4q, (by show 3 < sizeLine; decide), ?_⟩
    -- all told
    have D4 := hD.same s14
    have hpq : p ≠ q5 := fun z => by
      obtain ⟨dx, vc', vs', h1, _⟩ := hD.ob
      rw [z, n5] at h1
      cases h1
    have D5 : DkAt K C (upd H4 q5 (.lst ([.str (lineM (.well c.w)), .str (lineM (.infl c.lo c.hi)), .str (lineM (.lvls c.frm c.to))] ++ [.str (lineM (.beg n b.2.1))]))) p ⟨none, none⟩ := by
      obtain ⟨dx, vc', vs', h1, h2, h3⟩ := D4.ob
      have ns : NoSeq (H4 q5) := by rw [h4q]; exact noSeq_lst
      exact ⟨dx, vc', vs', by rw [upd_ne hpq]; exact h1, Dp.upd ns h2 (noL_OC _), Dp.upd ns h3 (noL_OS _)⟩
    have s15 : Same H (upd H4 q5 (.lst ([.str (lineM (.well c.w)), .str (lineM (.infl c.lo c.hi)), .str (lineM (.lvls c.frm c.to))] ++ [.str (lineM (.beg n b.2.1))]))) := s14.mut n5
    have h5q : upd H4 q5 (.lst ([.str (lineM (.well c.w)), .str (lineM (.infl c.lo c.hi)), .str (lineM (.lvls c.frm c.to))] ++ [.str (lineM (.beg n b.2.1))])) q5 = some (.lst ((ledCms c n b.2.1).map fun cm => V.str (lineM cm))) := upd_same
    generalize upd H4 q5 (.lst ([.str (lineM (.well c.w)), .str (lineM (.infl c.lo c.hi)), .str (lineM (.lvls c.frm c.to))] ++ [.str (lineM (.beg n b.2.1))])) = H5 at D5 s15 h5q
    obtain ⟨lp, lg⟩ := led_pre hc hf hlv1 hlv2
    dsimp only [tSeq, tIfS, tOr, tTest, tOp]
    refine say_lc (K := K) (C := C) (p := p) (j := 8) (J := Itl K q5) (H1 := H5) (D0 := ⟨none, none⟩) (cms := ledCms c n b.2.1) (xs := (ledCms c n b.2.1).map fun cm => V.str (lineM cm)) (fun R r => ⟨_, rfl, q5, rfl, ⟨_, SqL.of h5q⟩, r⟩) rfl (by decide) D5 lp (by simp) (by show 4 ≤ 100000; decide) (walkP_l D5.nd (SqL.of h5q)) (fun i x cm H' Q' hx hcm k hq => ?_) (fun L H6 hL k6 h6 d6 => ?_)
    · rw [List.getElem?_map, hcm] at hx
      cases hx
      exact ⟨_, rfl, hq H' (Same.refl _)⟩
    rw [lg] at h6 d6
    refine ⟨(by show 1 ≤ sizeLine; decide), fun l7 hl7 => ?_⟩
    refine ⟨l7, 4, _, rfl, rfl, upd_same, (by decide), (by decide), (by show 1 * 4 ≤ sizeLine; decide), fun l8 hl8 => ?_⟩
    have s78 : Same H6 (upd (upd H6 l7 (.lst [.str "done"])) l8 (.lst (List.replicate (Int.toNat 4) [V.str "done"]).flatten)) := (Same.new hl7).trans (Same.new hl8)
    have h8 : (upd (upd H6 l7 (.lst [.str "done"])) l8 (.lst (List.replicate (Int.toNat 4) [V.str "done"]).flatten)) l8 = some (.lst ([sDone, sDone, sDone, sDone].map V.str)) := upd_same
    generalize upd (upd H6 l7 (.lst [.str "done"])) l8 (.lst (List.replicate (Int.toNat 4) [V.str "done"]).flatten) = H8 at s78 h8
    have eL : SeqAt.shaped (.list ([sDone, sDone, sDone, sDone].map PyData.str)) = true := by decide +kernel
    have eE : PyData.eqv (.list ([sDone, sDone, sDone, sDone].map PyData.str)) (.list ([sDone, sDone, sDone, sDone].map PyData.str)) = true := by decide +kernel
    refine ⟨.list ([sDone, sDone, sDone, sDone].map PyData.str), .list ([sDone, sDone, sDone, sDone].map PyData.str), .lst (SqL.of (s78 _ _ h6)) (DpAll.of_strs _), .lst (SqL.of h8) (DpAll.of_strs _), eL, eL, _, rfl, ?_⟩
    rw [eE]
    refine iteF ?_
    have d8 := d6.same s78
    have kk8 : Kp [p] H H8 := (s15.kp.trans k6).trans s78.kp
    have nd := hD.nd
    obtain ⟨dx8, vc8, vs8, g8, _⟩ := d8.ob
    refine ⟨_, rfl, p, dx8, _, rfl, g8, p, _, rfl, d8, fun v9 d9 => ?_⟩
    refine ⟨_, rfl, encC c, encC c, d9, dc.kp kk8 nd, shaped_encC c, shaped_encC c, _, rfl, ?_⟩
    rw [eqv_encC]
    refine iteF ?_
    -- the beats
    have sml := Sml.beg hc.toCOk hn (lv := b.2.1) (mem_inf.mpr ⟨hlv1, hlv2⟩)
    obtain ⟨bp, pre, bans, bno⟩ := dRun_way hc.toSmC hn b.2.2 (begS c.w n b.2.1) b.1 sml hb.way.inf hb.ne hb.way.run hb.wd
    obtain ⟨t10, us, e10, ht10, du10⟩ := dp_tup (dr.kp kk8 nd)
    obtain ⟨u0, u1, rfl, du0, du1⟩ := dpa2 du10
    obtain ⟨t11, us, rfl, ht11, du11⟩ := dp_tup (show Dp K H8 u1 (.tuple (b.2.2.map .int)) from du1)
    obtain rfl := DpAll.ints du11
    dsimp only [tSeq, tAsg, tNext]
    refine say_lc (K := K) (C := C) (p := p) (j := 7) (J := Itt K t11) (H1 := H8) (D0 := ⟨some c, some (begS c.w n b.2.1)⟩) (cms := b.2.2.map .beat) (xs := b.2.2.map V.int) (fun R r => ?_) rfl (by decide) d8 (dPre_beats _ _ bp) (by simp) (by rw [List.length_map]; exact Nat.le_trans hb.ln (by decide)) (walkP_t d8.nd ht11) (fun i x cm H' Q' hx hcm k hq => ?_) (fun L H11 hL k11 h11 d11 => ?_)
    · exact ⟨_, rfl, t10, _, 1, _, e10, rfl, ht10, rfl, t11, rfl, ⟨_, ht11⟩, r⟩
    · rw [List.getElem?_map] at hx hcm
      obtain ⟨z, hz1, hz2⟩ := Option.map_eq_some_iff.mp hx
      rw [hz1] at hcm
      cases hcm
      subst hz2
      have hzi : z ∈ inf c.lo c.hi := mem_inf.mpr (hb.way.inf z (List.mem_of_getElem? hz1))
      have fz : fig z := by
        have h1 := mem_inf.mp hzi
        have h2 := f2' c.lo (by simp)
        have h3 := f2' c.hi (by simp)
        exact ⟨by omega, by omega⟩
      refine ⟨(List.replicate 9 none).set 7 (some (.int z)), .str (lineM (.beat z)), env_at (env_none (n := 9) rfl) rfl (.int z), ?_, fun v H'' s'' d'' => ?_⟩
      · have e1 : gStr1 [.int z] = some (.str (dg z)) := by rw [gStr1_int, if_pos (dg_log fz.1 fz.2)]; rfl
        have ld := dg_len fz.1 fz.2
        have k1 : ("beat " : Str).length = 5 := by decide +kernel
        have a1 := gAdd_s (a := "beat ") (b := dg z) (by omega)
        rw [line_beat] at a1
        simp -implicitDefEqProofs only [startD, sSeq, sSet, sRet, sIf, sSkip, sNever, sAsgG, sPar, fTup, f2, fSl, fPart, fNoPart, fVar, fC, fCons, fNil, fIf, fT, fCall, fIsa, fOrT, fAndT, fNotT, fAnd, fLc, fRng, fZip, fItemsT, fItemsL, List.map_cons, List.map_nil, List.length_cons, List.length_nil, List.replicate, List.cons_append, List.nil_append, List.getElem?_cons_zero, List.getElem?_cons_succ, List.set_cons_zero, List.set_cons_succ, Option.join_some, Option.join_none, Option.bind_some, Option.map_some, thenR_nx, thenR_rt, asI_int, asB_bool, gAdd_int, gSub_int, gMul_int, gCmpI_int, zBig, Nat.reduceAdd, Nat.reduceLeDiff, Nat.reduceSub, ite_true, ite_false, Bool.false_eq_true, decide_true, decide_false, gIs_none, decide_eq_true_eq, isD_tuple, isD_str, isD_int, isD_bool, isTuple_tuple, Bool.not_true, Bool.not_false, asTup_tup, asLst_lst, asRng_int, asZip_tup, wipeD, gNe, gEq, shaped_int, shaped_bool, shaped_none, and_self, condB_bool, e1, a1]
      · rw [dp_str d'']
        exact hq H'' s''
    rw [dGo_beats, bans] at h11
    have kk11 : Kp [p] H H11 := kk8.trans k11
    have hww : (PyData.str (wordOf b.1)).canLay0 = true := by
      have hw := hb.wd
      cases h : b.1 with
      | st t => rw [h] at hw; cases hw
      | over => decide +kernel
      | dry => decide +kernel
    refine ⟨[none, none, none, none, some (.str (wordOf b.1)), none, some (.list ((pre ++ [wordOf b.1]).map .str)), none, none], .bool true, env_no (env_no (env_no (env_no (env_c (.str _) (env_no (env_c (.lst (SqL.of h11) (DpAll.of_strs _)) (env_no (env_no env_nil)))))))), led_ret hww (fun a ha => ?_), fun v12 H12 s12 d12 => ?_⟩
    · obtain ⟨x, y, fx, fy, rfl⟩ := bno a ha
      exact ⟨row_lay fx fy, row_ne fx fy⟩
    · rw [dp_bl d12]
      exact q H12 (kk11.trans s12.kp)
end
end Pm
set_option maxHeartbeats 4000000
/-! LI0: defs run where nothing is being shown; repr of data; defs whose code object is known -/
namespace L2
open PySem PySem.Spec PyProof.Rows
/-- a def of the text, its code object at c -/
structure FunL (K : PySem.W.Frag) (x : Str) (st : Stmt) (f c : Addr) (fd : FuncData) : Prop where
  ex : ∃ (oc : Value) (od : Option Addr) (kV doc pm : Value) (an : Option Addr) (ct : Value) (osl : Array (Option Value)),
    fd = PySem.W.fnOf x x (defArgs st) (defBody st) (defScope st) .none kV doc pm an (.ref c) ct ∧ K.lookup f = some ⟨oc, od, .func fd, osl⟩ ∧ PySem.W.codeIn K (.ref c) x = true
  kp : PySem.W.keepIn K (.ref f) = true
theorem FunL.fn {K : PySem.W.Frag} {x : Str} {st : Stmt} {f c : Addr} {fd : FuncData} (F : FunL K x st f c fd) : Fun K x x st f fd := by
  obtain ⟨oc, od, kV, doc, pm, an, ct, osl, h1, h2, h3⟩ := F.ex
  exact ⟨⟨oc, od, kV, doc, pm, an, .ref c, ct, osl, h1, h2, h3⟩, F.kp⟩
/-- as FnOk, but only where no object is being shown -/
structure FnG (P : Program) (w : World) (K : PySem.W.Frag) (mg : Str → Option Value) (base : Heap) (k : Nat) (f : Addr) (fd : FuncData) (ps : List Str) (sp : Sp) : Prop where
  len : ∀ vs H Q, sp vs H Q E0 → vs.length = ps.length
  run : ∀ (A : Around) (outer : List Env) (s : Shared) (H : Hp) (args : Args) (us : List Value) (vs : List V) (Q : VK), A.guards = some [] → Room k A → Env0 P w K mg base A outer s H → BindsTo s fd args (ps.zip us) → Vals vs us → sp vs H Q E0 →
    codeAny (model P w) A (.call (.ref f) args) (CR CX0 outer P w H s Q E0) s
section
variable {P : Program} {w : World} {K : PySem.W.Frag} {mg : Str → Option Value} {base : Heap}
theorem FunL.okG {x : Str} {st : Stmt} {f c : Addr} {fd : FuncData} {N ps : List Str} {k : Nat} {sp : Sp} (F : FunL K x st f c fd) (S : FnScope N ps (defScope st)) (len : ∀ vs H Q, sp vs H Q E0 → vs.length = ps.length)
    (hbody : ∀ (A : Around) (outer : List Env) (s : Shared) (H : Hp) (vs : List V) (Q : VK), A.guards = some [] → Room k (A.deeper (envOfC x (defScope st) s.heap.objs.size f (.ref c))) → sp vs H Q E0 →
      ∃ t, PSs (cxOf CX0 P w K mg base N x (defScope st) f (.ref c) A outer s H E0).nox (defBody st) t ∧ t { nx := fun _ H' => Q .non H', rt := Q } (start N vs) H) : FnG P w K mg base (k + 1) f fd ps sp := by
  obtain ⟨oc, od, kV, doc, pm, an, ct, osl, rfl, lk, hcd⟩ := F.ex
  refine ⟨len, fun A outer s H args us vs Q hg hr e0 hb r h => ?_⟩
  refine LamX.run_ofS (CX := CX0) (N := N) lk hcd S hr e0 hb r (len vs H Q h) fun hr' => ?_
  obtain ⟨t, h1, h2⟩ := hbody A outer s H vs Q hg hr' h
  exact ⟨t, h1.nox, h2⟩
end
section
variable {X : Cx}
def tCallG (sp : Sp) (t : TA) : TE := fun σ H Q => t σ H fun vs H1 => sp vs H1 Q E0
theorem pe_callG {k : Nat} {f : Addr} {fd : FuncData} {ps : List Str} {sp : Sp} {x : Str} {p pos : Pos} {e : Expr} {es : List Expr} {t : TA} (F : FnG X.prog X.w X.K X.mg X.base k f fd ps sp) (hgd : X.A.guards = some []) (hr : Room k X.A) (hm : X.mg x = some (.ref f)) (hk : PySem.W.keepIn X.K (.ref f) = true) (hb : Binds X.K fd ps [])
    (ha : PA X (e :: es) t) (hg : Gl X x := by rfl) (hdb : (x == ("__debug__" : Str)) = false := by decide) (he : starEach (e :: es) X.env = (false, eval e X.env) :: starEach es X.env := by rfl) (hpl : (backTo pos (starEach es X.env)).any (·.1) = false := by rfl) :
    PE X (.Call (.Name x p) (e :: es) [] pos) (tCallG sp t) := ⟨fun pins s σ H Q I h => by
  refine wpAny_Call_Name_kw (ld_glob I hg hm ?_ hdb)
  refine PySem.W.callWith_K (h₀ := X.base) I.ok.mod.kin hk (thn (ha.run pos pins s σ H _ I h) fun us s1 q1 => ?_) he hpl
  obtain ⟨vs, H1, I1, r, q⟩ := q1
  have hl : us.length = ps.length := by rw [← r.length]; exact F.len vs H1 Q q
  have hz : BindsTo s1 fd ⟨us, []⟩ (ps.zip us) := by
    have := hb s1 us I1.kIn (by rw [List.append_nil]; exact hl)
    rw [List.append_nil] at this
    exact this
  refine ⟨I1.kIn, wpAny_call (codeAny_mono (F.run X.A X.stack s1 H1 ⟨us, []⟩ us vs Q hgd hr I1.env0 hz r q) fun z s2 hz2 => ?_)⟩
  match z, hz2 with
  | .ok (.ret u), hz2 => exact I1.after hz2
  | .ok .next, hz2 => exact hz2.elim
  | .ok .brk, hz2 => exact hz2.elim
  | .ok .cont, hz2 => exact hz2.elim
  | .error e, hz2 => exact (show False from hz2).elim⟩
/-- repr of data -/
def rRepr (K : PySem.W.Frag) : List V → Hp → VK → Prop := fun xs H Q => ∃ (a : Addr) (d : PyData), xs = [V.ref a] ∧ Dp K H (.ref a) d ∧ d.showable = true ∧ d.hasDict = false ∧ d.depth ≤ 60 ∧ d.shown.length ≤ sizeLine ∧ Q (.str d.shown) H
theorem call_repr (hg : X.A.guards = some []) (hu : X.A.units + 66 < cLine) : CallR X (.builtin "repr") (rRepr X.K) := by
  intro pins s σ H xs us Q I r h
  obtain ⟨a, d, rfl, hd, h1, h2, h3, h4, q⟩ := h
  rw [Vals.ref1 r]
  obtain ⟨as, rd⟩ := Dp.reads I d (.ref a) (.ref a) hd rfl
  refine repr_of_reads' rd h1 (fun z => by rw [h2] at z; cases z) hg (by omega) (fun _ _ e => e) (fun h' u tk hk => ?_) h4
  exact ⟨.str d.shown, H, I.kept hk, ⟨u, rfl⟩, q⟩
end
end L2
namespace Pm
open PySem PySem.Spec PyProof.Rows L2 LamX
theorem extN_same {H H' : Hp} (e : Same H H') : ExtN H H' := fun b o h _ => e b o h
/-- an object that came later is written -/
theorem extN_mut {H H1 H2 : Hp} {q : Addr} {o : HO} (e1 : ExtN H H1) (h : H1 q = none) (e2 : ExtN H H2) : ExtN H (L2.upd H2 q o) := fun b u hb n => by
  have hq : b ≠ q := fun z => by
    have := e1 b u hb n
    rw [z, h] at this
    cases this
  rw [upd_ne hq]
  exact e2 b u hb n
end Pm
set_option maxHeartbeats 4000000
/-! LI: the law's _law_run_right -/
namespace Pm
open PySem PySem.Spec PyProof.Rows L2 LamX
section
variable {P : Program} {w : World} {K : PySem.W.Frag} {mg : Str → Option Value} {base : Heap} {C : Addr}
def nmRun : Str := "_law_run_right.<locals>.<lambda>"
def kO : Key := Sum.inr "over"
def kDr : Key := Sum.inr "dry"
theorem kOD : kO ≠ kDr := by decide +kernel
theorem merge_od {x y : V} : mergeK [] [(kO, x), (kDr, y)] = [(kO, x), (kDr, y)] := by
  have h := kOD
  simp [mergeK, putK, h]
theorem get_od {r : Rs} (h : isWord r = true) : valV [(kO, V.str "dry"), (kDr, V.str "over")] (Sum.inr (wordOf r)) = some (.str (wordOf (otherR r))) := by
  have hk := kOD
  cases r with
  | st s => cases h
  | over =>
    show valV _ kO = _
    simp [valV]
    rfl
  | dry =>
    show valV _ kDr = _
    simp [valV, hk]
    rfl
theorem tabs_updL {TT : List (Addr × Str)} {H : Hp} {q : Addr} {xs : List V} {o : HO} (t : Tabs TT H) (h : H q = some (.lst xs)) : Tabs TT (L2.upd H q o) := tabs_oth t (frm_updL (K := default) (o := o) h).o
theorem word_shaped {r : Rs} (h : isWord r = true) : SeqAt.shaped (.str (wordOf r)) = true := by
  cases r with
  | st s => cases h
  | over => exact shaped_over
  | dry => exact shaped_dry
theorem two_eq {a b : Rs} (ha : isWord a = true) (hb : isWord b = true) : SeqAt.shaped (.list [.str (wordOf a), .str (wordOf b)]) = true ∧ PyData.eqv (.list [.str (wordOf a), .str (wordOf b)]) (.list [.str (wordOf a), .str (wordOf b)]) = true := by
  cases a with
  | st s => cases ha
  | over => cases b with
    | st s => cases hb
    | over => exact ⟨by decide +kernel, by decide +kernel⟩
    | dry => exact ⟨by decide +kernel, by decide +kernel⟩
  | dry => cases b with
    | st s => cases hb
    | over => exact ⟨by decide +kernel, by decide +kernel⟩
    | dry => exact ⟨by decide +kernel, by decide +kernel⟩
/-- a paper with a run, told of a claim that is not safe -/
def encRun (b : Rs × Int × List Int) : PyData := .tuple [.str (wordOf b.1), .tuple [.int b.2.1, encI b.2.2]]
theorem encRun_pap {b : Rs × Int × List Int} (h : isWord b.1 = true) : encRun b = encPap (.run b.1 b.2.1 b.2.2) := by
  show PyData.tuple [PyData.str (wordOf b.1), _] = PyData.tuple [encR b.1, _]
  rw [encR_word h]
def spRunRight (TT : List (Addr × Str)) (K : PySem.W.Frag) : Sp := fun vs H Q _ => ∃ (vc vn vp : V) (c : Cl) (n : Option Int) (b : Rs × Int × List Int), vs = [vc, vn, vp, .int (b.2.2.length : Int)] ∧ DrC c ∧ NumOk n ∧ (∀ k, n = some k → fig k) ∧ Best c n b ∧
  Dp K H vc (encC c) ∧ Dp K H vn (encO n) ∧ Dp K H vp (encRun b) ∧ Tabs TT H ∧ ∀ H', ExtN H H' → Tabs TT H' → Q (.bl true) H'
theorem sc_lrun : FnScope ["_law_claim_so", "_law_number_so", "_law_paper_so", "_law_least_so", "_law_other", "_law_heard", "_law_shorter", "_law_word", "_law_run_so"] ["_law_claim_so", "_law_number_so", "_law_paper_so", "_law_least_so"] (defScope (top 89)) := ⟨rfl, rfl, rfl, by decide +kernel, rfl, by decide +kernel, by decide +kernel⟩
/-- what is asked of the def that calls what it gets, and of check_safety where it raises -/
structure DRef (P : Program) (w : World) (K : PySem.W.Frag) (mg : Str → Option Value) (base : Heap) (CB fI : Addr) : Prop where
  bt : PySem.BadX.BadTxt P K mg CB fI
  rf : ∃ (a : Addr) (fd : FuncData), Fun K "_law_is_refused" "_law_is_refused" (top 87) a fd ∧ mg "_law_is_refused" = some (.ref a)
  ck : ∃ (a : Addr) (fd : FuncData), mg "check_safety" = some (.ref a) ∧ PySem.W.keepIn K (.ref a) = true ∧ Binds K fd ["claim", "number", "paper"] [] ∧ FnOk P w K mg base (L2.CX P w) 5 a fd ["claim", "number", "paper"] (spCheckX CB K)
/-- a lambda that raises BadPaper, refused -/
theorem ref_go {CB : Addr} {TT : List (Addr × Str)} {fs : DE → Option (List PyData)} {σ : L2.St} {H : Hp} {Q : VK} {ρ : DE} {c : Cl} {n : Option Int} {p : Pap} (t : Tabs TT H) (hen : EnvD K H σ ρ) (hf : fs ρ = some [encC c, encO n, encPap p]) (hP : PapOk c n p) (hR : resPap c n p = false)
    (q : ∀ H', ExtN H H' → Tabs TT H' → Q (.str (wordPap p)) H') : tLam TT (TRef CB) (fun E => tCall (spCheckX CB K) [] E (tDA K fs)) σ H Q := by
  refine ⟨t, fun H1 e1 t1 => ?_⟩
  have hen1 : EnvD K H1 σ ρ := ⟨hen.1, fun i d hi => by
    obtain ⟨v, h1, h2⟩ := hen.2 i d hi
    exact ⟨v, h1, Dp.extN e1 h2⟩⟩
  refine ⟨ρ, _, hen1, hf, fun vs H2 s2 d2 => ?_⟩
  refine ⟨c, n, p, ?_, hP, hR, fun H3 d s3 hd => ⟨rfl, d, _, rfl, upd_same, ?_⟩⟩
  · rw [List.append_nil]
    exact d2
  · have s4 := (s2.trans s3).trans (Same.new (o := .xd [(("part" : Str), .str (wordPap p))]) hd)
    exact q _ (e1.trans (extN_same s4)) (tabs_same t1 s4)
theorem ok_run_right {f cF PF CB fB aI : Addr} {fd fdI : FuncData} {TT : List (Addr × Str)} (F : FunL K "_law_run_right" (top 89) f cF fd) (T : Tx mg) (Z : TDk K mg C) (R : DRef P w K mg base CB fB)
    (D_led : FnX P w K mg base 10 "_law_led" ["_law_desk", "_law_claim_so", "_law_number_so", "_law_run_so", "_law_word"] (spLed C K)) (M : Mk K C aI) (GI : FnOk P w K mg base CX0 1 aI fdI ["self"] (spDInit C K)) (bI : Binds K fdI ["self"] [])
    (TB : TabB base mg cF PF) (hT : (PF, nmRun) ∈ TT) (hu : ∀ p ∈ TT, p.1 = PF → p.2 = nmRun) :
    FnG P w K mg base 11 f fd ["_law_claim_so", "_law_number_so", "_law_paper_so", "_law_least_so"] (spRunRight TT K) := by
  obtain ⟨aR, fdR, FR, mR⟩ := R.rf
  obtain ⟨aC, fdC, mC, kC, bC, GC⟩ := R.ck
  obtain ⟨aL, fdL, mL, kL, bL, GL⟩ := D_led.ex
  have bR : Binds K fdR ["_law_call"] [] := FR.binds (fun _ _ _ _ _ _ us hl => match us, hl with | [_], _ => rfl)
  obtain ⟨oc, od, kV, doc, pm, an, cdv, ct, osl, rfl, lkR, hcdR⟩ := FR.ex
  refine F.okG sc_lrun (fun vs H Q h => ?_) (fun A outer s H vs Q hg hr h => ?_)
  · obtain ⟨vc, vn, vp, c, n, b, rfl, _⟩ := h
    rfl
  · obtain ⟨vc, vn, vp, c, n, b, rfl, hc, hn, hf, hb, dc, dn, dp, t0, q⟩ := h
    refine ⟨_, pss_cons (ps_asg (pv 2) (pg_tup rfl (pgs_cons (pg_name (i := 7) sc_lrun.nd rfl (Or.inr rfl)) (pgs_cons (pg_name (i := 8) sc_lrun.nd rfl (Or.inr rfl)) pgs_nil))))
      (pss_cons (ps_if (PW.pt (pw_or (t_cmp (op_neD hr.units) ov_ne (d_callB cv_len call_lenP T.b_len (da_cons (d_ix (pd 8) d_int) da_nil) (hv := bt_len)) (pd 3) (nomark _))
          (pw_or1 (pt_not (pt_val (pe_call GL hr rfl mL kL bL .nil pass0 (pa_cons (pe_make0 M GI (hr.mono (by decide)) rfl Z.mgC bI .nil pass0) (pa_cons (pv 0) (pa_cons (pv 1) (pa_cons (pv 8) (pa_cons (pv 7) pa_nil)))))) (by intro _; rfl)))))) (pss_one (ps_ret pe_bl)) pss_nil)
      (pss_cons (ps_set (i := 4) sc_lrun.nd rfl (Or.inr rfl) (pe_dget (hu_of hr) (pe_disp (pps_cons pe_str pe_str (pps_cons pe_str pe_str pps_nil)) rfl rfl (by decide) (by decide)) (pv 7) (fun _ _ => rfl)))
      (pss_cons (ps_set (i := 5) sc_lrun.nd rfl (Or.inl rfl) (pe_lst (pa_cons (pe_lamcall (T := TT) (TT := TRef CB) (x := "_law_is_refused") (a := "_law_call") (t := fun E => tCall (spCheckX CB K) [] E (tDA K ((fCons (fVar 0) (fCons (fVar 1) (fCons (fTup (fCons (fVar 4) (fCons (fVar 8) fNil))) fNil)))))) rfl mR FR.kp lkR hcdR bR sc_lref rfl (Or.inl rfl) (refused_gives R.bt) TB rfl hT hu (hr.mono (by decide)) (lamS_by (sc := defScope (top 89)) (by decide +kernel)) rfl (fun _ _ _ _ _ => rfl) (fun A outer s H E f c2 hr2 => pe_call GC hr2 rfl mC kC bC .nil (passes_call (takes_of rfl rfl rfl rfl) fun _ _ _ _ h => h) (da_cons (pd 0) (da_cons (pd 1) (da_cons (d_tup (da_cons (pd 4) (da_cons (pd 8) da_nil))) da_nil))))) pa_nil)))
      (pss_cons (ps_set (i := 6) sc_lrun.nd rfl (Or.inr rfl) (d_tup (da_cons (d_ix (pd 8) d_int) (da_cons (d_slice (d_ix (pd 8) d_int) do_none (do_some d_neg)) da_nil))))
      (pss_cons (ps_expr (pe_bm PySem.F.plainAttrs_list PySem.F.slot_list_append PySem.F.type_list_append mt_append (pv 5) (pa_cons (pe_lamcall (T := TT) (TT := TRef CB) (x := "_law_is_refused") (a := "_law_call") (t := fun E => tCall (spCheckX CB K) [] E (tDA K ((fCons (fVar 0) (fCons (fVar 1) (fCons (fTup (fCons (fVar 7) (fCons (fVar 6) fNil))) fNil)))))) rfl mR FR.kp lkR hcdR bR sc_lref rfl (Or.inl rfl) (refused_gives R.bt) TB rfl hT hu (hr.mono (by decide)) (lamS_by (sc := defScope (top 89)) (by decide +kernel)) rfl (fun _ _ _ _ _ => rfl) (fun A outer s H E f c2 hr2 => pe_call GC hr2 rfl mC kC bC .nil (passes_call (takes_of rfl rfl rfl rfl) fun _ _ _ _ h => h) (da_cons (pd 0) (da_cons (pd 1) (da_cons (d_tup (da_cons (pd 7) (da_cons (pd 6) da_nil))) da_nil))))) pa_nil)))
      (pss_one (ps_ret (pe_cmpR (op_eqD hr.units) (pv 5) (pe_lst (pa_cons (pv 4) (pa_cons (pv 7) pa_nil))) (nomark _))))))))), ?_⟩
    have hw := hb.wd
    obtain ⟨tp, us, rfl, htp, dus⟩ := dp_tup (show Dp K H vp (.tuple [.str (wordOf b.1), .tuple [.int b.2.1, encI b.2.2]]) from dp)
    obtain ⟨x7, vr, rfl, d7, dr⟩ := dpa2 dus
    obtain rfl := dp_str d7
    refine ⟨_, rfl, tp, _, rfl, htp, rfl, _, _, rfl, _, _, rfl, rfl, ?_⟩
    -- len(run[1]) != least
    have eLn : PyData.eqv (.int (b.2.2.length : Int)) (.int (b.2.2.length : Int)) = true := by rw [eqv_int]; exact beq_self_eq_true _
    refine ⟨[none, none, none, some (.int (b.2.2.length : Int)), none, none, none, none, some (.tuple [.int b.2.1, encI b.2.2])], false, env_no (env_no (env_no (env_c (.int _) (env_no (env_no (env_no (env_no (env_c dr env_nil)))))))), ?_, fun H1 s1 => ?_⟩
    · have e1 : gIx (.tuple [.int b.2.1, encI b.2.2]) (.int 1) = some (encI b.2.2) := rfl
      have e2 : gLen [encI b.2.2] = some (.int (b.2.2.length : Int)) := by unfold encI; rw [gLen_tup, List.length_map]
      simp -implicitDefEqProofs only [startD, sSeq, sSet, sRet, sIf, sSkip, sNever, sAsgG, sPar, fTup, f2, fSl, fPart, fNoPart, fVar, fC, fCons, fNil, fIf, fT, fCall, fIsa, fOrT, fAndT, fNotT, fAnd, fLc, fRng, fZip, fItemsT, fItemsL, List.map_cons, List.map_nil, List.length_cons, List.length_nil, List.replicate, List.cons_append, List.nil_append, List.getElem?_cons_zero, List.getElem?_cons_succ, List.set_cons_zero, List.set_cons_succ, Option.join_some, Option.join_none, Option.bind_some, Option.map_some, thenR_nx, thenR_rt, asI_int, asB_bool, gAdd_int, gSub_int, gMul_int, gCmpI_int, zBig, Nat.reduceAdd, Nat.reduceLeDiff, Nat.reduceSub, ite_true, ite_false, Bool.false_eq_true, decide_true, decide_false, gIs_none, decide_eq_true_eq, isD_tuple, isD_str, isD_int, isD_bool, isTuple_tuple, Bool.not_true, Bool.not_false, asTup_tup, asLst_lst, asRng_int, asZip_tup, wipeD, gNe, gEq, shaped_int, shaped_bool, shaped_none, and_self, condB_bool, e1, e2, eLn]
    refine iteF ?_
    -- Desk()
    intro pD dx hpD hdx hne
    have s2 : Same H1 (upd (upd H1 dx (.own pD)) pD (.ins C dx [])) := fun a o e => by
      rw [upd_ne (ne_of_none e hpD), upd_ne (ne_of_none e hdx)]
      exact e
    refine ⟨pD, dx, rfl, upd_same, fun H3 D3 k3 => ⟨rfl, ?_⟩⟩
    have s03 : Same H H3 := fun a o e => k3 a o ((s1.trans s2) a o e) fun z => by
      have := s1 a o e
      rw [List.mem_singleton.mp z, hpD] at this
      cases this
    refine ⟨_, rfl, _, rfl, _, rfl, _, rfl, pD, vc, vn, vr, c, n, b, rfl, D3, hc, hn, hf, hb, dc.same s03, dn.same s03, dr.same s03, fun H4 k4 => ?_⟩
    have s04 : Same H H4 := fun a o e => k4 a o (s03 a o e) fun z => by
      have := s1 a o e
      rw [List.mem_singleton.mp z, hpD] at this
      cases this
    refine ⟨true, rfl, ?_⟩
    refine iteF ?_
    -- the other word
    intro pm hpm
    refine ⟨upd_same, [(kO, .str "dry"), (kDr, .str "over")], rfl, (by decide), ?_⟩
    rw [merge_od, upd_upd]
    refine ⟨_, rfl, pm, _, rfl, dget (k := Sum.inr (wordOf b.1)) upd_same (get_od hw), ?_⟩
    have s05 : Same H (upd H4 pm (.dK [(kO, .str "dry"), (kDr, .str "over")])) := s04.trans (Same.new hpm)
    generalize upd H4 pm (.dK [(kO, .str "dry"), (kDr, .str "over")]) = H5 at s05
    have t5 := tabs_same t0 s05
    -- the other word is refused
    have env5 : EnvD K H5 [some vc, some vn, some (.ref tp), some (.int (b.2.2.length : Int)), some (.str (wordOf (otherR b.1))), none, none, some (.str (wordOf b.1)), some vr] [some (encC c), some (encO n), none, none, some (.str (wordOf (otherR b.1))), none, none, none, some (.tuple [.int b.2.1, encI b.2.2])] :=
      env_c (dc.same s05) (env_c (dn.same s05) (env_no (env_no (env_c (.str _) (env_no (env_no (env_no (env_c (dr.same s05) env_nil))))))))
    refine ref_go (p := .run (otherR b.1) b.2.1 b.2.2) t5 env5 ?_ ⟨hc.toCOk, hn, hb.okOther⟩ hb.other fun H6 e6 t6 => ?_
    · have e1 : encPap (.run (otherR b.1) b.2.1 b.2.2) = .tuple [.str (wordOf (otherR b.1)), .tuple [.int b.2.1, encI b.2.2]] := by
        show PyData.tuple [encR (otherR b.1), _] = PyData.tuple [PyData.str (wordOf (otherR b.1)), _]
        rw [encR_word (otherR_word _)]
      rw [e1]
      simp -implicitDefEqProofs only [startD, sSeq, sSet, sRet, sIf, sSkip, sNever, sAsgG, sPar, fTup, f2, fSl, fPart, fNoPart, fVar, fC, fCons, fNil, fIf, fT, fCall, fIsa, fOrT, fAndT, fNotT, fAnd, fLc, fRng, fZip, fItemsT, fItemsL, List.map_cons, List.map_nil, List.length_cons, List.length_nil, List.replicate, List.cons_append, List.nil_append, List.getElem?_cons_zero, List.getElem?_cons_succ, List.set_cons_zero, List.set_cons_succ, Option.join_some, Option.join_none, Option.bind_some, Option.map_some, thenR_nx, thenR_rt, asI_int, asB_bool, gAdd_int, gSub_int, gMul_int, gCmpI_int, zBig, Nat.reduceAdd, Nat.reduceLeDiff, Nat.reduceSub, ite_true, ite_false, Bool.false_eq_true, decide_true, decide_false, gIs_none, decide_eq_true_eq, isD_tuple, isD_str, isD_int, isD_bool, isTuple_tuple, Bool.not_true, Bool.not_false, asTup_tup, asLst_lst, asRng_int, asZip_tup, wipeD, gNe, gEq, shaped_int, shaped_bool, shaped_none, and_self, condB_bool]
    refine ⟨(by show 1 ≤ sizeLine; decide), fun qh hqh => ?_⟩
    have e06 : ExtN H H6 := (extN_same s05).trans e6
    have e07 : ExtN H (upd H6 qh (.lst [.str (wordOf (otherR b.1))])) := e06.trans (extN_same (Same.new hqh))
    have t7 : Tabs TT (upd H6 qh (.lst [.str (wordOf (otherR b.1))])) := tabs_same t6 (Same.new hqh)
    have h7 : (upd H6 qh (.lst [.str (wordOf (otherR b.1))])) qh = some (.lst [.str (wordOf (otherR b.1))]) := upd_same
    have hw1 : (wordPap (.run (otherR b.1) b.2.1 b.2.2)) = wordOf (otherR b.1) := rfl
    rw [hw1]
    generalize upd H6 qh (.lst [.str (wordOf (otherR b.1))]) = H7 at e07 t7 h7
    -- shorter
    refine ⟨[none, none, none, none, none, none, none, none, some (.tuple [.int b.2.1, encI b.2.2])], .tuple [.int b.2.1, encI b.2.2.dropLast], env_no (env_no (env_no (env_no (env_no (env_no (env_no (env_no (env_c (Dp.extN e07 dr) env_nil)))))))), ?_, fun v8 H8 s8 d8 => ?_⟩
    · have e1 : gIx (.tuple [.int b.2.1, encI b.2.2]) (.int 1) = some (encI b.2.2) := rfl
      have e0 : gIx (.tuple [.int b.2.1, encI b.2.2]) (.int 0) = some (.int b.2.1) := rfl
      have e2 : gSl (encI b.2.2) none (some (-1)) = some (encI b.2.2.dropLast) := by
        unfold encI
        rw [gSl_tup]
        have hl : 1 ≤ b.2.2.length := List.length_pos_iff.mpr hb.ne
        have := cutP_neg (b.2.2.map PyData.int) 1 (by simpa using hl) (by decide)
        rw [show (-((1 : Nat) : Int)) = -1 from rfl] at this
        rw [this, List.length_map, ← List.map_take, List.dropLast_eq_take]
      simp -implicitDefEqProofs only [startD, sSeq, sSet, sRet, sIf, sSkip, sNever, sAsgG, sPar, fTup, f2, fSl, fPart, fNoPart, fVar, fC, fCons, fNil, fIf, fT, fCall, fIsa, fOrT, fAndT, fNotT, fAnd, fLc, fRng, fZip, fItemsT, fItemsL, List.map_cons, List.map_nil, List.length_cons, List.length_nil, List.replicate, List.cons_append, List.nil_append, List.getElem?_cons_zero, List.getElem?_cons_succ, List.set_cons_zero, List.set_cons_succ, Option.join_some, Option.join_none, Option.bind_some, Option.map_some, thenR_nx, thenR_rt, asI_int, asB_bool, gAdd_int, gSub_int, gMul_int, gCmpI_int, zBig, Nat.reduceAdd, Nat.reduceLeDiff, Nat.reduceSub, ite_true, ite_false, Bool.false_eq_true, decide_true, decide_false, gIs_none, decide_eq_true_eq, isD_tuple, isD_str, isD_int, isD_bool, isTuple_tuple, Bool.not_true, Bool.not_false, asTup_tup, asLst_lst, asRng_int, asZip_tup, wipeD, gNe, gEq, shaped_int, shaped_bool, shaped_none, and_self, condB_bool, e0, e1, e2]
    have e08 : ExtN H H8 := e07.trans (extN_same s8)
    have t8 := tabs_same t7 s8
    have h8 := s8 _ _ h7
    -- it is refused
    refine ⟨_, rfl, .inl ⟨rfl, _, SqL.of h8⟩, ?_⟩
    have env8 : EnvD K H8 [some vc, some vn, some (.ref tp), some (.int (b.2.2.length : Int)), some (.str (wordOf (otherR b.1))), some (.ref qh), some v8, some (.str (wordOf b.1)), some vr] [some (encC c), some (encO n), none, none, none, none, some (.tuple [.int b.2.1, encI b.2.2.dropLast]), some (.str (wordOf b.1)), none] :=
      env_c (Dp.extN e08 dc) (env_c (Dp.extN e08 dn) (env_no (env_no (env_no (env_no (env_c d8 (env_c (.str _) (env_no env_nil))))))))
    refine ref_go (p := .run b.1 b.2.1 b.2.2.dropLast) t8 env8 ?_ ⟨hc.toCOk, hn, hb.okShort⟩ hb.short fun H9 e9 t9 => ?_
    · have e1 : encPap (.run b.1 b.2.1 b.2.2.dropLast) = .tuple [.str (wordOf b.1), .tuple [.int b.2.1, encI b.2.2.dropLast]] := by
        show PyData.tuple [encR b.1, _] = PyData.tuple [PyData.str (wordOf b.1), _]
        rw [encR_word hw]
      rw [e1]
      simp -implicitDefEqProofs only [startD, sSeq, sSet, sRet, sIf, sSkip, sNever, sAsgG, sPar, fTup, f2, fSl, fPart, fNoPart, fVar, fC, fCons, fNil, fIf, fT, fCall, fIsa, fOrT, fAndT, fNotT, fAnd, fLc, fRng, fZip, fItemsT, fItemsL, List.map_cons, List.map_nil, List.length_cons, List.length_nil, List.replicate, List.cons_append, List.nil_append, List.getElem?_cons_zero, List.getElem?_cons_succ, List.set_cons_zero, List.set_cons_succ, Option.join_some, Option.join_none, Option.bind_some, Option.map_some, thenR_nx, thenR_rt, asI_int, asB_bool, gAdd_int, gSub_int, gMul_int, gCmpI_int, zBig, Nat.reduceAdd, Nat.reduceLeDiff, Nat.reduceSub, ite_true, ite_false, Bool.false_eq_true, decide_true, decide_false, gIs_none, decide_eq_true_eq, isD_tuple, isD_str, isD_int, isD_bool, isTuple_tuple, Bool.not_true, Bool.not_false, asTup_tup, asLst_lst, asRng_int, asZip_tup, wipeD, gNe, gEq, shaped_int, shaped_bool, shaped_none, and_self, condB_bool]
    have h9 := e9 _ _ h8 (fun _ z => (nomatch z))
    refine ⟨qh, _, _, rfl, rfl, h9, (by show 1 < sizeLine; decide), ?_⟩
    have t10 : Tabs TT (upd H9 qh (.lst ([V.str (wordOf (otherR b.1))] ++ [V.str (wordPap (.run b.1 b.2.1 b.2.2.dropLast))]))) := tabs_updL t9 h9
    have e10 : ExtN H (upd H9 qh (.lst ([V.str (wordOf (otherR b.1))] ++ [V.str (wordPap (.run b.1 b.2.1 b.2.2.dropLast))]))) := extN_mut e06 hqh (e08.trans e9)
    have h10 : (upd H9 qh (.lst ([V.str (wordOf (otherR b.1))] ++ [V.str (wordPap (.run b.1 b.2.1 b.2.2.dropLast))]))) qh = some (.lst ([wordOf (otherR b.1), wordOf b.1].map V.str)) := upd_same
    generalize upd H9 qh (.lst ([V.str (wordOf (otherR b.1))] ++ [V.str (wordPap (.run b.1 b.2.1 b.2.2.dropLast))])) = H10 at t10 e10 h10
    -- heard == [other, word]
    refine ⟨_, rfl, _, rfl, _, rfl, (by show 2 ≤ sizeLine; decide), fun q11 hq11 => ?_⟩
    have s11 : Same H10 (upd H10 q11 (.lst [.str (wordOf (otherR b.1)), .str (wordOf b.1)])) := Same.new hq11
    obtain ⟨z1, z2⟩ := two_eq (otherR_word b.1) hw
    refine ⟨_, _, .lst (SqL.of (s11 _ _ h10)) (DpAll.of_strs [wordOf (otherR b.1), wordOf b.1]), .lst (SqL.of upd_same) (DpAll.of_strs [wordOf (otherR b.1), wordOf b.1]), z1, z1, ?_⟩
    show Q (.bl (PyData.eqv (.list [.str (wordOf (otherR b.1)), .str (wordOf b.1)]) (.list [.str (wordOf (otherR b.1)), .str (wordOf b.1)]))) _
    rw [z2]
    exact q _ (e10.trans (extN_same s11)) (tabs_same t10 s11)
end
end Pm
set_option maxHeartbeats 4000000
/-! MG: how long a paper is, shown -/
namespace Pm
open PySem PySem.Spec PyProof.Rows L2
theorem shownAll_map : ∀ xs : List PyData, PyData.shownAll xs = xs.map PyData.shown
  | [] => by rw [PyData.shownAll]; rfl
  | x :: xs => by rw [PyData.shownAll, shownAll_map xs]; rfl
theorem sum_le_mul {m : Nat} : ∀ {l : List Nat}, (∀ x ∈ l, x ≤ m) → l.sum ≤ l.length * m
  | [], _ => Nat.zero_le _
  | a :: l, h => by
    have h1 := h a List.mem_cons_self
    have h2 := sum_le_mul fun x hx => h x (List.mem_cons_of_mem _ hx)
    rw [List.sum_cons, List.length_cons, Nat.succ_mul]
    omega
theorem tup_len {xs : List PyData} {m : Nat} (h : ∀ x ∈ xs, x.shown.length ≤ m) : (PyData.tuple xs).shown.length ≤ 3 + xs.length * (m + 2) := by
  rw [PyData.shown, shownAll_map]
  unfold tupleText
  have h1 := StrLaws.join_length_le ", " (xs.map PyData.shown)
  have h2 : ((xs.map PyData.shown).map (·.length)).sum ≤ xs.length * m := by
    have := sum_le_mul (m := m) (l := (xs.map PyData.shown).map (·.length)) (fun x hx => by
      obtain ⟨y, hy, rfl⟩ := List.mem_map.mp hx
      obtain ⟨z, hz, rfl⟩ := List.mem_map.mp hy
      exact h z hz)
    simpa using this
  have k1 : (", " : Str).length = 2 := by decide +kernel
  have k2 : ("(" : Str).length = 1 := by decide +kernel
  have k3 : ((if (xs.map PyData.shown).length == 1 then ",)" else ")" : String) : Str).length ≤ 2 := by
    split <;> decide +kernel
  rw [k1, List.length_map] at h1
  rw [PySem.Str.length_append, PySem.Str.length_append, k2]
  rw [Nat.mul_add]
  omega
theorem int_len {i : Int} (a : 0 ≤ i) (b : i ≤ 50) : (PyData.int i).shown.length ≤ 2 := by
  have key : ∀ k : Fin 51, (PyData.int ((k.val : Nat) : Int)).shown.length ≤ 2 := by decide +kernel
  have := key ⟨i.toNat, by omega⟩
  rw [show (((⟨i.toNat, by omega⟩ : Fin 51).val : Nat) : Int) = i by simp; omega] at this
  exact this
theorem ints_len {ns : List Int} (h : ∀ x ∈ ns, 0 ≤ x ∧ x ≤ 50) : (encI ns).shown.length ≤ 3 + ns.length * 4 := by
  have := tup_len (xs := ns.map PyData.int) (m := 2) fun x hx => by
    obtain ⟨y, hy, rfl⟩ := List.mem_map.mp hx
    exact int_len (h y hy).1 (h y hy).2
  rw [List.length_map] at this
  exact this
theorem st_len {c : Cl} (hc : SmC c) {n : Option Int} (hn : NumOk n) {s : Sst} (h : Sml c n s) : (encS s).shown.length ≤ 203 := by
  have h1 := sok_of hc hn h
  have w := hc.w
  have t5 := hc.top5
  have r2 := hc.run2
  have e2 := hc.rest2
  have l1 := hc.lag1
  have p1 := h1.past
  have p2 := h1.runs
  have p3 := h1.rests
  have q1 := h1.lv
  have hs := h.rsum
  have hr := h.rests
  have hp := ints_len (ns := s.past) fun x hx => by have := h1.pastv x hx; omega
  have hu := ints_len (ns := s.runs) fun x hx => by
    have z1 := h.runs x hx
    have z2 := le_sum h.runs hx
    omega
  have he := ints_len (ns := s.rests) fun x hx => by have := hr x hx; omega
  have ho : (encO s.ready).shown.length ≤ 4 := by
    cases q : s.ready with
    | none => decide +kernel
    | some r =>
      have := h1.num r q
      have := int_len (i := r) (by omega) (by omega)
      show (PyData.int r).shown.length ≤ 4
      omega
  have hl := int_len (i := s.lv) (by omega) (by omega)
  have := tup_len (xs := [.int s.lv, encI s.past, encI s.runs, encI s.rests, encO s.ready]) (m := 38) fun x hx => by
    simp only [List.mem_cons, List.not_mem_nil, or_false] at hx
    rcases hx with rfl | rfl | rfl | rfl | rfl <;> omega
  exact this
theorem tab_len {c : Cl} (hc : SmC c) {n : Option Int} (hn : NumOk n) {l : List Sst} (h : ∀ s ∈ l, Sml c n s) (hl : l.length ≤ 14580) : (PyData.tuple (l.map encS)).shown.length ≤ 3000000 := by
  have := tup_len (xs := l.map encS) (m := 203) fun x hx => by
    obtain ⟨y, hy, rfl⟩ := List.mem_map.mp hx
    exact st_len hc hn (h y hy)
  rw [List.length_map] at this
  have h2 : l.length * 205 ≤ 14580 * 205 := Nat.mul_le_mul_right _ hl
  omega
/-- data that is shown -/
structure Shows (d : PyData) : Prop where
  sh : d.showable = true
  nd : d.hasDict = false
  dp : d.depth ≤ 60
  ln : d.shown.length ≤ sizeLine
theorem show_int {i : Int} (a : 0 ≤ i) (b : i ≤ 50) : (PyData.int i).showable = true := by
  rw [PyData.showable, decide_eq_true_eq]
  have h1 := Nat.log2_le_self i.natAbs
  omega
theorem showAll_map {α : Type} {g : α → PyData} : ∀ {xs : List α}, (∀ x ∈ xs, (g x).showable = true) → PyData.showableAll (xs.map g) = true
  | [], _ => by simp [PyData.showableAll]
  | x :: xs, h => by
    rw [List.map_cons, PyData.showableAll, h x List.mem_cons_self, showAll_map fun y hy => h y (List.mem_cons_of_mem _ hy)]
    rfl
theorem hasAll_map {α : Type} {g : α → PyData} : ∀ {xs : List α}, (∀ x ∈ xs, (g x).hasDict = false) → PyData.hasDictAll (xs.map g) = false
  | [], _ => by simp [PyData.hasDictAll]
  | x :: xs, h => by
    rw [List.map_cons, PyData.hasDictAll, h x List.mem_cons_self, hasAll_map fun y hy => h y (List.mem_cons_of_mem _ hy)]
    rfl
theorem show_ints {ns : List Int} (h : ∀ x ∈ ns, 0 ≤ x ∧ x ≤ 50) : (encI ns).showable = true ∧ (encI ns).hasDict = false := by
  unfold encI
  rw [PyData.showable, PyData.hasDict]
  exact ⟨showAll_map fun x hx => show_int (h x hx).1 (h x hx).2, hasAll_map fun x _ => by simp [PyData.hasDict]⟩
theorem show_st {c : Cl} (hc : SmC c) {n : Option Int} (hn : NumOk n) {s : Sst} (h : Sml c n s) : (encS s).showable = true ∧ (encS s).hasDict = false := by
  have h1 := sok_of hc hn h
  have t5 := hc.top5
  have q1 := h1.lv
  have hs := h.rsum
  have hr := h.rests
  obtain ⟨a1, a2⟩ := show_ints (ns := s.past) fun x hx => by have := h1.pastv x hx; omega
  obtain ⟨b1, b2⟩ := show_ints (ns := s.runs) fun x hx => by
    have z1 := h.runs x hx
    have z2 := le_sum h.runs hx
    omega
  obtain ⟨c1, c2⟩ := show_ints (ns := s.rests) fun x hx => by have := hr x hx; omega
  have ho : (encO s.ready).showable = true ∧ (encO s.ready).hasDict = false := by
    cases q : s.ready with
    | none => exact ⟨by simp [encO, PyData.showable], by simp [encO, PyData.hasDict]⟩
    | some r =>
      have := h1.num r q
      exact ⟨show_int (i := r) (by omega) (by omega), by simp [encO, PyData.hasDict]⟩
  have hl := show_int (i := s.lv) (by omega) (by omega)
  unfold encS
  rw [PyData.showable, PyData.hasDict]
  simp only [PyData.showableAll, PyData.hasDictAll, a1, a2, b1, b2, c1, c2, ho.1, ho.2, hl, PyData.hasDict, Bool.and_self, Bool.or_self, and_self]
theorem shows_tab {c : Cl} (hc : SmC c) {n : Option Int} (hn : NumOk n) {l : List Sst} (h : ∀ s ∈ l, Sml c n s) (hl : l.length ≤ 14580) : Shows (.tuple (l.map encS)) := by
  refine ⟨?_, ?_, ?_, ?_⟩
  · rw [PyData.showable]
    exact showAll_map fun x hx => (show_st hc hn (h x hx)).1
  · rw [PyData.hasDict]
    exact hasAll_map fun x hx => (show_st hc hn (h x hx)).2
  · rw [PyData.depth]
    have := depth_map (g := encS) (k := 3) encS_depth l
    omega
  · have := tab_len hc hn h hl
    rw [sizeLine_eq]
    omega
/-- the papers -/
theorem word_show {x : Str} (h : x = sOver ∨ x = sDry ∨ x = sSafe) : (PyData.str x).shown.length ≤ 6 := by
  rcases h with rfl | rfl | rfl <;> decide +kernel
theorem pair_show {x : Str} (h : x = sOver ∨ x = sDry ∨ x = sSafe) {d : PyData} (hd : d.showable = true) (hn : d.hasDict = false) (hp : d.depth ≤ 58) (hl : d.shown.length ≤ 4000000) : Shows (.tuple [.str x, d]) := by
  refine ⟨?_, ?_, ?_, ?_⟩
  · rw [PyData.showable]
    simp [PyData.showableAll, PyData.showable, hd]
  · rw [PyData.hasDict]
    simp [PyData.hasDictAll, PyData.hasDict, hn]
  · rw [PyData.depth]
    simp only [PyData.depthAll, PyData.depth]
    omega
  · have h1 := word_show h
    have := tup_len (xs := [.str x, d]) (m := 4000000) fun y hy => by
      simp only [List.mem_cons, List.not_mem_nil, or_false] at hy
      rcases hy with rfl | rfl <;> omega
    rw [sizeLine_eq]
    simp only [List.length_cons, List.length_nil] at this
    omega
theorem shows_paper {c : Cl} (hc : SmC c) {n : Option Int} (hn : NumOk n) : Shows (paperS (fin c n)) := by
  have G := fin_good hc hn
  unfold paperS
  cases q : (fin c n).runs with
  | nil =>
    have h1 : ∀ s ∈ tableS (fin c n), Sml c n s := fun s hs => by
      obtain ⟨e, he, rfl⟩ := List.mem_map.mp (mem_sortS.mp hs)
      exact G.sm e he
    have h2 : (tableS (fin c n)).length ≤ 14580 := by
      unfold tableS
      rw [(sortS_perm _).length_eq, List.length_map]
      exact G.few hc
    have S := shows_tab hc hn h1 h2
    have h3 := tab_len hc hn h1 h2
    have h4 : (PyData.tuple ((tableS (fin c n)).map encS)).depth ≤ 58 := by
      rw [PyData.depth]
      have := depth_map (g := encS) (k := 3) encS_depth (tableS (fin c n))
      omega
    exact pair_show (.inr (.inr rfl)) S.sh S.nd h4 (by omega)
  | cons r rs =>
    have B := best_of hc hn q
    simp only
    generalize bestR r rs = b at B
    have hx : wordOf b.1 = sOver ∨ wordOf b.1 = sDry ∨ wordOf b.1 = sSafe := by
      have := B.wd
      cases h : b.1 with
      | st t => rw [h] at this; cases this
      | over => exact .inl rfl
      | dry => exact .inr (.inl rfl)
    have hi := hc.infl
    have h3 := hc.hi3
    have hl := hc.lvs
    have t5 := hc.top5
    have l1 := B.way.lv1
    have l2 := B.way.lv2
    have hin : ∀ x ∈ b.2.2, 0 ≤ x ∧ x ≤ 50 := fun x hx => by
      have := B.way.inf x hx
      omega
    obtain ⟨s1, s2⟩ := show_ints hin
    have s3 := ints_len hin
    have s4 := B.ln
    have s5 := show_int (i := b.2.1) (by omega) (by omega)
    have s6 := int_len (i := b.2.1) (by omega) (by omega)
    refine pair_show hx ?_ ?_ ?_ ?_
    · rw [PyData.showable]
      simp [PyData.showableAll, s1, s5]
    · rw [PyData.hasDict]
      simp [PyData.hasDictAll, PyData.hasDict, s2]
    · rw [PyData.depth]
      simp only [PyData.depthAll, PyData.depth, encI_depth]
      omega
    · have := tup_len (xs := [.int b.2.1, encI b.2.2]) (m := 60000) fun y hy => by
        simp only [List.mem_cons, List.not_mem_nil, or_false] at hy
        rcases hy with rfl | rfl <;> omega
      simp only [List.length_cons, List.length_nil] at this
      omega
end Pm
set_option maxHeartbeats 4000000
/-! LJ: the law's _law_table_right -/
namespace Pm
open PySem PySem.Spec PyProof.Rows L2 LamX
section
variable {P : Program} {w : World} {K : PySem.W.Frag} {mg : Str → Option Value} {base : Heap} {C : Addr}
def nmTab : Str := "_law_table_right.<locals>.<lambda>"
theorem getS_in {sts : List Sst} {s : Sst} (h : s ∈ sts) : (getS (sts.map fun st => (st, V.bl true)) s).isSome = true := by
  unfold getS
  rw [Option.isSome_map, List.find?_isSome]
  exact ⟨(s, V.bl true), List.mem_map.mpr ⟨s, h, rfl⟩, by simp⟩
theorem str_ne {x : Str} : (!decide (V.str x = V.str x)) = false := by simp
theorem tab_lenS {c : Cl} (hc : SmC c) {n : Option Int} (hn : NumOk n) : 0 < (tableS (fin c n)).length ∧ (tableS (fin c n)).length ≤ 14580 := by
  refine ⟨List.length_pos_of_mem (tab_beg hc hn (lv := c.frm) (mem_inf.mpr ⟨Int.le_refl _, hc.lvs.2.1⟩)), ?_⟩
  unfold tableS
  rw [(sortS_perm _).length_eq, List.length_map]
  exact (fin_good hc hn).few hc
theorem tab_sml {c : Cl} (hc : SmC c) {n : Option Int} (hn : NumOk n) : ∀ s ∈ tableS (fin c n), Sml c n s := fun s hs => by
  obtain ⟨e, he, rfl⟩ := List.mem_map.mp (mem_sortS.mp hs)
  exact (fin_good hc hn).sm e he
/-- a table without its k-th row -/
theorem tab_cut {c : Cl} (hc : SmC c) {n : Option Int} (hn : NumOk n) (hr : (fin c n).runs = []) {k : Nat} (hk : k < (tableS (fin c n)).length) :
    TabOk c n ((tableS (fin c n)).take k ++ (tableS (fin c n)).drop (k + 1)) ∧ okTable c n ((tableS (fin c n)).take k ++ (tableS (fin c n)).drop (k + 1)) = false := by
  have e0 : (tableS (fin c n)) = (tableS (fin c n)).take k ++ (tableS (fin c n))[k] :: (tableS (fin c n)).drop (k + 1) := by rw [← List.drop_eq_getElem_cons hk, List.take_append_drop]
  have nd : (tableS (fin c n)).Nodup := sortS_nd (fin_good hc hn).nd
  have nd2 := nd
  rw [e0, List.nodup_append] at nd2
  obtain ⟨n1, n2, n3⟩ := nd2
  rw [List.nodup_cons] at n2
  refine ⟨tab_part hc hn hr ?_, tab_less hc hn (fun s _ => Decidable.em _) (List.getElem_mem hk) (fun z => ?_) fun s hs hne => ?_⟩
  · conv => rhs; rw [e0]
    exact List.Sublist.append (List.Sublist.refl _) (List.sublist_cons_self _ _)
  · rcases List.mem_append.mp z with z | z
    · exact n3 _ z _ List.mem_cons_self rfl
    · exact n2.1 z
  · rw [e0] at hs
    rcases List.mem_append.mp hs with z | z
    · exact List.mem_append_left _ z
    · rcases List.mem_cons.mp z with z | z
      · exact absurd z hne
      · exact List.mem_append_right _ z
def spTableRight (TT : List (Addr × Str)) (K : PySem.W.Frag) : Sp := fun vs H Q _ => ∃ (pm : Addr) (vc vn vt : V) (c : Cl) (n : Option Int) (B : Int), vs = [.ref pm, vc, vn, vt] ∧ DrC c ∧ NumOk n ∧ (fin c n).runs = [] ∧ MOk H pm B ∧ B ≤ 99000 ∧
  Dp K H vc (encC c) ∧ Dp K H vn (encO n) ∧ Dp K H vt (.tuple ((tableS (fin c n)).map encS)) ∧ Tabs TT H ∧ ∀ H', FrD K H H' → MOk H' pm (B + 1) → Tabs TT H' → Q (.bl true) H'
theorem sc_ltab : FnScope ["_law_m", "_law_claim_so", "_law_number_so", "_law_table_so", "_law_known_so", "_law_level", "_law_one", "_law_spot", "_law_less", "_law_some", "_law_well_so", "_law_inflows_so", "_law_levels_so", "_law_inflow"] ["_law_m", "_law_claim_so", "_law_number_so", "_law_table_so"] (defScope (top 90)) := ⟨rfl, rfl, rfl, by decide +kernel, rfl, by decide +kernel, by decide +kernel⟩
theorem ok_table_right {f cF PF CB fB : Addr} {fd : FuncData} {TT : List (Addr × Str)} (F : FunL K "_law_table_right" (top 90) f cF fd) (T : Tx mg) (R : DRef P w K mg base CB fB)
    (D_states : FnD P w K mg base 8 "states" g_states) (D_first : FnD P w K mg base 1 "_law_first" g_law_first) (D_beat : FnD P w K mg base 1 "_law_beat" g_law_beat) (D_next : FnX P w K mg base 1 "_law_next" ["_law_m", "_law_total"] (spNext K)) (D_verdict : FnD P w K mg base 8 "verdict" g_verdict)
    (TB : TabB base mg cF PF) (hT : (PF, nmTab) ∈ TT) (hu : ∀ p ∈ TT, p.1 = PF → p.2 = nmTab) :
    FnG P w K mg base 9 f fd ["_law_m", "_law_claim_so", "_law_number_so", "_law_table_so"] (spTableRight TT K) := by
  obtain ⟨aR, fdR, FR, mR⟩ := R.rf
  obtain ⟨aC, fdC, mC, kC, bC, GC⟩ := R.ck
  obtain ⟨aN, fdN, mN, kN, bN, GN⟩ := D_next.ex
  have bR : Binds K fdR ["_law_call"] [] := FR.binds (fun _ _ _ _ _ _ us hl => match us, hl with | [_], _ => rfl)
  obtain ⟨oc, od, kV, doc, pm, an, cdv, ct, osl, rfl, lkR, hcdR⟩ := FR.ex
  refine F.okG sc_ltab (fun vs H Q h => ?_) (fun A outer s H vs Q hg hr h => ?_)
  · obtain ⟨pm, vc, vn, vt, c, n, B, rfl, _⟩ := h
    rfl
  · obtain ⟨pm, vc, vn, vt, c, n, B, rfl, hc, hn, hruns, hM, hB, dc, dn, dt, t0, q⟩ := h
    refine ⟨_, pss_cons (ps_if (pt_cmpR op_ne (pe_callB (call_repr hg hr.u66) (by rfl) T.b_repr bt_repr (pa_cons (d_call D_states (hr.mono (by decide)) (da_cons (pd 1) (da_cons (pd 2) da_nil))) pa_nil)) (pe_callB (call_repr hg hr.u66) (by rfl) T.b_repr bt_repr (pa_cons (pv 3) pa_nil)) (nomark _)) (pss_one (ps_ret pe_bl)) pss_nil)
      (pss_cons (ps_asg (pv 1) (pg_tup rfl (pgs_cons (pg_name (i := 10) sc_ltab.nd rfl (Or.inl rfl)) (pgs_cons (pg_name (i := 11) sc_ltab.nd rfl (Or.inl rfl)) (pgs_cons (pg_name (i := 12) sc_ltab.nd rfl (Or.inl rfl)) pgs_nil)))))
      (pss_cons (ps_set (i := 4) sc_ltab.nd rfl (Or.inl rfl) (pe_callTy (call_dictPS rfl hr.units) (by rfl) T.b_dict bt_dict (pa_cons (d_lc (own := [("_law_one", 6)]) sc_ltab.nd (i_tup (pd 3)) (blkOk_by (N := ["_law_m", "_law_claim_so", "_law_number_so", "_law_table_so", "_law_known_so", "_law_level", "_law_one", "_law_spot", "_law_less", "_law_some", "_law_well_so", "_law_inflows_so", "_law_levels_so", "_law_inflow"]) (sc := (defScope (top 90))) (by decide +kernel)) (dg_name 6) (by decide) (fun _ _ _ _ _ => (pg_name (i := 6) sc_ltab.nd rfl (Or.inl rfl))) (fun _ _ _ _ _ => (d_tup (da_cons (pd 6) (da_cons d_bl da_nil))))) pa_nil)))
      (pss_cons (ps_for PassesOwn.never rfl (pi_range2 (by rfl) T.b_range (pa_cons (d_ix (pd 12) d_int) (pa_cons (d_bin op_addAll ov_add (d_ix (pd 12) d_int) d_int) pa_nil))) (pg_name (i := 5) sc_ltab.nd rfl (Or.inl rfl))
        (pss_one (ps_if (pt_cmpR (op_notInS hr.units) (d_call D_first (hr.mono (by decide)) (da_cons (pd 10) (da_cons (pd 2) (da_cons (pd 5) da_nil)))) (pv 4) (by rfl)) (pss_one (ps_ret pe_bl)) pss_nil)))
      (pss_cons (ps_for PassesOwn.never rfl (pi_tup (pv 3)) (pg_name (i := 6) sc_ltab.nd rfl (Or.inl rfl))
        (pss_one (ps_for PassesOwn.never rfl (pi_range2 (by rfl) T.b_range (pa_cons (d_ix (pd 11) d_int) (pa_cons (d_bin op_addAll ov_add (d_ix (pd 11) d_int) d_int) pa_nil))) (pg_name (i := 13) sc_ltab.nd rfl (Or.inl rfl))
          (pss_one (ps_if (pt_cmpR (op_notInS hr.units) (d_call D_beat (hr.mono (by decide)) (da_cons (pd 10) (da_cons (pd 6) (da_cons (pd 13) da_nil)))) (pv 4) (by rfl)) (pss_one (ps_ret pe_bl)) pss_nil)))))
      (pss_cons (ps_set (i := 7) sc_ltab.nd rfl (Or.inl rfl) (pe_call GN (hr.mono (by decide)) rfl mN kN bN .nil pass0 (pa_cons (pv 0) (pa_cons (d_callB cv_len call_lenP T.b_len (da_cons (pd 3) da_nil) (hv := bt_len)) pa_nil))))
      (pss_cons (ps_set (i := 8) sc_ltab.nd rfl (Or.inr rfl) (d_tup (da_cons d_str (da_cons (d_bin op_addAll ov_add (d_slice (pd 3) do_none (do_some (pd 7))) (d_slice (pd 3) (do_some (d_bin op_addAll ov_add (pd 7) d_int)) do_none)) da_nil))))
      (pss_cons (ps_if (pt_cmpR op_ne (pe_lamcall (T := TT) (TT := TRef CB) (x := "_law_is_refused") (a := "_law_call") (t := fun E => tCall (spCheckX CB K) [] E (tDA K ((fCons (fVar 1) (fCons (fVar 2) (fCons (fVar 8) fNil)))))) rfl mR FR.kp lkR hcdR bR sc_lref rfl (Or.inl rfl) (refused_gives R.bt) TB rfl hT hu (hr.mono (by decide)) (lamS_by (sc := defScope (top 90)) (by decide +kernel)) rfl (fun _ _ _ _ _ => rfl) (fun A outer s H E f c2 hr2 => pe_call GC hr2 rfl mC kC bC .nil (passes_call (takes_of rfl rfl rfl rfl) fun _ _ _ _ h => h) (da_cons (pd 1) (da_cons (pd 2) (da_cons (pd 8) da_nil))))) pe_str (nomark _)) (pss_one (ps_ret pe_bl)) pss_nil)
      (pss_cons (ps_set (i := 9) sc_ltab.nd rfl (Or.inl rfl) (d_lst (da_cons (d_tup (da_cons (pd 10) (da_cons (d_tup (da_cons (d_ix (pd 11) d_int) (da_cons (d_ix (pd 11) d_int) da_nil))) (da_cons (pd 12) da_nil)))) (da_cons (d_tup (da_cons (pd 10) (da_cons (pd 11) (da_cons (d_bin op_mulT ov_mulT (d_tup (da_cons (d_ix (pd 12) d_int) da_nil)) d_int) da_nil)))) da_nil))))
      (pss_one (ps_ret (d_cmp (op_eqD hr.units) (ov_eq) (d_lc (own := [("_law_one", 6)]) sc_ltab.nd (i_list (pd 9)) (blkOk_by (N := ["_law_m", "_law_claim_so", "_law_number_so", "_law_table_so", "_law_known_so", "_law_level", "_law_one", "_law_spot", "_law_less", "_law_some", "_law_well_so", "_law_inflows_so", "_law_levels_so", "_law_inflow"]) (sc := (defScope (top 90))) (by decide +kernel)) (dg_name 6) (by decide) (fun _ _ _ _ _ => (pg_name (i := 6) sc_ltab.nd rfl (Or.inl rfl))) (fun _ _ _ _ _ => (d_call D_verdict (hr.mono (by decide)) (da_cons (pd 6) (da_cons (pd 2) da_nil))))) (d_lst (da_cons d_str (da_cons d_str da_nil))) (nomark _)))))))))))), ?_⟩
    have hP := hc.toCOk
    have hS := hc.toSmC
    obtain ⟨h1, h2, h3⟩ := hP.lvs
    obtain ⟨i1, i2, i3⟩ := hP.infl
    have h4 := hP.w.top
    obtain ⟨tl0, tl1⟩ := tab_lenS hS hn
    have tsm := tab_sml hS hn
    have S := shows_tab hS hn tsm tl1
    have tnd : (tableS (fin c n)).Nodup := sortS_nd (fin_good hS hn).nd
    have hbeg := fun lv (h : lv ∈ inf c.frm c.to) => tab_beg hS hn h
    have hbt := fun s (hs : s ∈ tableS (fin c n)) i (hi : i ∈ inf c.lo c.hi) => tab_beat hS hn hruns hs hi
    have hcut := fun k (hk : k < (tableS (fin c n)).length) => tab_cut hS hn hruns hk
    have eSt := g_states_eq hS hn
    generalize tableS (fin c n) = tb at tl0 tl1 tsm S tnd hbeg hbt hcut eSt dt
    -- repr(states(..)) != repr(table)
    refine ⟨[none, some (encC c), some (encO n), none, none, none, none, none, none, none, none, none, none, none], .tuple (tb.map encS), (env_no (env_c (dc) (env_c (dn) (env_no (env_no (env_no (env_no (env_no (env_no (env_no (env_no (env_no (env_no (env_no env_nil)))))))))))))), ?_, fun v1 H1 s1 d1 => ?_⟩
    · simp -implicitDefEqProofs only [startD, sSeq, sSet, sRet, sIf, sSkip, sNever, sAsgG, sPar, fTup, f2, fSl, fPart, fNoPart, fVar, fC, fCons, fNil, fIf, fT, fCall, fIsa, fOrT, fAndT, fNotT, fAnd, fLc, fRng, fZip, fItemsT, fItemsL, List.map_cons, List.map_nil, List.length_cons, List.length_nil, List.replicate, List.cons_append, List.nil_append, List.getElem?_cons_zero, List.getElem?_cons_succ, List.set_cons_zero, List.set_cons_succ, Option.join_some, Option.join_none, Option.bind_some, Option.map_some, thenR_nx, thenR_rt, asI_int, asB_bool, gAdd_int, gSub_int, gMul_int, gCmpI_int, zBig, Nat.reduceAdd, Nat.reduceLeDiff, Nat.reduceSub, ite_true, ite_false, Bool.false_eq_true, decide_true, decide_false, gIs_none, decide_eq_true_eq, isD_tuple, isD_str, isD_int, isD_bool, isTuple_tuple, Bool.not_true, Bool.not_false, asTup_tup, asLst_lst, asRng_int, asZip_tup, wipeD, gNe, gEq, shaped_int, shaped_bool, shaped_none, and_self, condB_bool, eSt]
    obtain ⟨a1, u1, rfl, _, _⟩ := dp_tup d1
    obtain ⟨ta, us, rfl, hta, dus⟩ := dp_tup dt
    refine ⟨a1, _, rfl, d1, S.sh, S.nd, S.dp, S.ln, ?_⟩
    refine ⟨_, rfl, ta, _, rfl, dt.same s1, S.sh, S.nd, S.dp, S.ln, ?_⟩
    refine ⟨rfl, _, rfl, ?_⟩
    rw [str_ne]
    refine iteF ?_
    -- the parts of the claim
    obtain ⟨tc, ucs, rfl, htc, duc⟩ := dp_tup (dc.same s1)
    obtain ⟨vw, vi, vl, rfl, dw, di, dl⟩ := dpa3 duc
    refine ⟨_, rfl, tc, _, rfl, htc, rfl, _, _, rfl, _, _, rfl, _, _, rfl, rfl, ?_⟩
    -- known
    refine ⟨[none, none, none, some (.tuple (tb.map encS)), none, none, none, none, none, none, none, none, none, none], .list (tb.map L2.pairD), (env_no (env_no (env_no (env_c (dt.same s1) (env_no (env_no (env_no (env_no (env_no (env_no (env_no (env_no (env_no (env_no env_nil)))))))))))))), ?_, fun vP H2 s2 dP => ?_⟩
    · have e5 := noL_map (g := L2.pairD) (fun s => by show noL (.tuple [encS s, .bool true]) = true; simp [noL_S]) tb
      have e6 : tb.length ≤ 100000 := by omega
      simp -implicitDefEqProofs only [startD, sSeq, sSet, sRet, sIf, sSkip, sNever, sAsgG, sPar, fTup, f2, fSl, fPart, fNoPart, fVar, fC, fCons, fNil, fIf, fT, fCall, fIsa, fOrT, fAndT, fNotT, fAnd, fLc, fRng, fZip, fItemsT, fItemsL, List.map_cons, List.map_nil, List.length_cons, List.length_nil, List.replicate, List.cons_append, List.nil_append, List.getElem?_cons_zero, List.getElem?_cons_succ, List.set_cons_zero, List.set_cons_succ, Option.join_some, Option.join_none, Option.bind_some, Option.map_some, thenR_nx, thenR_rt, asI_int, asB_bool, gAdd_int, gSub_int, gMul_int, gCmpI_int, zBig, Nat.reduceAdd, Nat.reduceLeDiff, Nat.reduceSub, ite_true, ite_false, Bool.false_eq_true, decide_true, decide_false, gIs_none, decide_eq_true_eq, isD_tuple, isD_str, isD_int, isD_bool, isTuple_tuple, Bool.not_true, Bool.not_false, asTup_tup, asLst_lst, asRng_int, asZip_tup, wipeD, gNe, gEq, shaped_int, shaped_bool, shaped_none, and_self, condB_bool, List.length_map, e6]
      rw [lcRun_map (g := L2.pairD) fun i hi => ⟨_, rfl, ?_⟩]
      · simp -implicitDefEqProofs only [Option.bind_some, e5, if_true, Option.map_some]
      · simp -implicitDefEqProofs only [startD, sSeq, sSet, sRet, sIf, sSkip, sNever, sAsgG, sPar, fTup, f2, fSl, fPart, fNoPart, fVar, fC, fCons, fNil, fIf, fT, fCall, fIsa, fOrT, fAndT, fNotT, fAnd, fLc, fRng, fZip, fItemsT, fItemsL, List.map_cons, List.map_nil, List.length_cons, List.length_nil, List.replicate, List.cons_append, List.nil_append, List.getElem?_cons_zero, List.getElem?_cons_succ, List.set_cons_zero, List.set_cons_succ, Option.join_some, Option.join_none, Option.bind_some, Option.map_some, thenR_nx, thenR_rt, asI_int, asB_bool, gAdd_int, gSub_int, gMul_int, gCmpI_int, zBig, Nat.reduceAdd, Nat.reduceLeDiff, Nat.reduceSub, ite_true, ite_false, Bool.false_eq_true, decide_true, decide_false, gIs_none, decide_eq_true_eq, isD_tuple, isD_str, isD_int, isD_bool, isTuple_tuple, Bool.not_true, Bool.not_false, asTup_tup, asLst_lst, asRng_int, asZip_tup, wipeD, gNe, gEq, shaped_int, shaped_bool, shaped_none, and_self, condB_bool, setN]
        rfl
    refine ⟨vP, tb, rfl, dP, tnd, (by show tb.length ≤ 100000; omega), fun d1 φ hd1 D1 => ?_⟩
    have s3 : Same H2 (upd H2 d1 (.ext φ)) := Same.new hd1
    have s03 := (s1.trans s2).trans s3
    generalize upd H2 d1 (.ext φ) = H3 at D1 s3 s03
    have s13 := s2.trans s3
    -- each level begun is known
    have dl3 := dl.same s13
    have dw3 := dw.same s13
    have di3 := di.same s13
    have dn3 := dn.same s03
    refine ⟨[none, none, none, none, none, none, none, none, none, none, none, none, some (.tuple [.int c.frm, .int c.to]), none], .int c.frm, (env_no (env_no (env_no (env_no (env_no (env_no (env_no (env_no (env_no (env_no (env_no (env_no (env_c (dl3) (env_no env_nil)))))))))))))), rfl, fun v4 H4 s4 dv4 => ?_⟩
    obtain rfl := dp_int dv4
    refine ⟨[none, none, none, none, none, none, none, none, none, none, none, none, some (.tuple [.int c.frm, .int c.to]), none], .int (c.to + 1), (env_no (env_no (env_no (env_no (env_no (env_no (env_no (env_no (env_no (env_no (env_no (env_no (env_c (dl3.same s4) (env_no env_nil)))))))))))))), rfl, fun v5 H5 s5 dv5 => ?_⟩
    obtain rfl := dp_int dv5
    refine ⟨c.frm, c.to + 1, rfl, ⟨by omega, by omega, by omega, by omega⟩, ?_⟩
    have s35 := s4.trans s5
    let Pv : Nat → L2.St → Hp → Prop := fun j σ H' => ∃ (x5 : Option V), σ = [some (.ref pm), some (.ref tc), some vn, some (.ref ta), some (.ref d1), x5, none, none, none, none, some vw, some vi, some vl, none] ∧ Same H3 H'
    refine for_range Pv ⟨none, rfl, s35⟩ ?_ ?_
    · rintro j σ H6 hj ⟨x5, rfl, s36⟩
      have him : c.frm + (j : Int) ∈ inf c.frm c.to := mem_inf.mpr ⟨by omega, by omega⟩
      have eF := g_law_first_eq hP.w n (c.frm + (j : Int))
      refine ⟨[none, none, some (encO n), none, none, some (.int (c.frm + (j : Int))), none, none, none, none, some (encW c.w), none, none, none], encS (begS c.w n (c.frm + (j : Int))), (env_no (env_no (env_c (dn3.same s36) (env_no (env_no (env_c (.int _) (env_no (env_no (env_no (env_no (env_c (dw3.same s36) (env_no (env_no (env_no env_nil)))))))))))))), ?_, fun v7 H7 s7 d7 => ?_⟩
      · simp -implicitDefEqProofs only [startD, sSeq, sSet, sRet, sIf, sSkip, sNever, sAsgG, sPar, fTup, f2, fSl, fPart, fNoPart, fVar, fC, fCons, fNil, fIf, fT, fCall, fIsa, fOrT, fAndT, fNotT, fAnd, fLc, fRng, fZip, fItemsT, fItemsL, List.map_cons, List.map_nil, List.length_cons, List.length_nil, List.replicate, List.cons_append, List.nil_append, List.getElem?_cons_zero, List.getElem?_cons_succ, List.set_cons_zero, List.set_cons_succ, Option.join_some, Option.join_none, Option.bind_some, Option.map_some, thenR_nx, thenR_rt, asI_int, asB_bool, gAdd_int, gSub_int, gMul_int, gCmpI_int, zBig, Nat.reduceAdd, Nat.reduceLeDiff, Nat.reduceSub, ite_true, ite_false, Bool.false_eq_true, decide_true, decide_false, gIs_none, decide_eq_true_eq, isD_tuple, isD_str, isD_int, isD_bool, isTuple_tuple, Bool.not_true, Bool.not_false, asTup_tup, asLst_lst, asRng_int, asZip_tup, wipeD, gNe, gEq, shaped_int, shaped_bool, shaped_none, and_self, condB_bool, eF]
      refine ⟨_, rfl, d1, begS c.w n (c.frm + (j : Int)), _, rfl, d7, (D1.same s36).same s7, _, rfl, ?_⟩
      rw [getS_in (hbeg _ him)]
      refine iteF ?_
      exact ⟨_, rfl, s36.trans s7⟩
    rintro σ H6 ⟨x5, rfl, s36⟩
    -- each beat behind a state is known
    let Pv2 : Nat → L2.St → Hp → Prop := fun j σ H' => ∃ (x6 x13 : Option V), σ = [some (.ref pm), some (.ref tc), some vn, some (.ref ta), some (.ref d1), x5, x6, none, none, none, some vw, some vi, some vl, x13] ∧ Same H3 H'
    refine ⟨_, rfl, ta, rfl, ⟨_, same_t (s03.trans s36) hta⟩, for_tup (xs := us) Pv2 ⟨_, _, rfl, s36⟩ (fun i σ H' _ ⟨_, _, _, h⟩ => same_t (s03.trans h) hta) ?_ ?_⟩
    · rintro i x σ H7 hx ⟨x6, x13, rfl, s37⟩
      obtain ⟨d, hd, dx⟩ := dus.get' hx
      have hil : i < tb.length := by
        have := (List.getElem?_eq_some_iff.mp hx).1
        rw [dus.length, List.length_map] at this
        exact this
      rw [List.getElem?_map, List.getElem?_eq_getElem hil] at hd
      cases hd
      have hsm := List.getElem_mem hil
      have sml := tsm _ hsm
      refine ⟨[none, none, none, none, none, none, none, none, none, none, none, some (.tuple [.int c.lo, .int c.hi]), none, none], .int c.lo, (env_no (env_no (env_no (env_no (env_no (env_no (env_no (env_no (env_no (env_no (env_no (env_c (di3.same s37) (env_no (env_no env_nil)))))))))))))), rfl, fun v8 H8 s8 dv8 => ?_⟩
      obtain rfl := dp_int dv8
      refine ⟨[none, none, none, none, none, none, none, none, none, none, none, some (.tuple [.int c.lo, .int c.hi]), none, none], .int (c.hi + 1), (env_no (env_no (env_no (env_no (env_no (env_no (env_no (env_no (env_no (env_no (env_no (env_c ((di3.same s37).same s8) (env_no (env_no env_nil)))))))))))))), rfl, fun v9 H9 s9 dv9 => ?_⟩
      obtain rfl := dp_int dv9
      refine ⟨c.lo, c.hi + 1, rfl, ⟨by omega, by omega, by omega, by omega⟩, ?_⟩
      have s39 := (s37.trans s8).trans s9
      let Pv3 : Nat → L2.St → Hp → Prop := fun j σ H' => ∃ (x13 : Option V), σ = [some (.ref pm), some (.ref tc), some vn, some (.ref ta), some (.ref d1), x5, some x, none, none, none, some vw, some vi, some vl, x13] ∧ Same H3 H'
      refine for_range Pv3 ⟨_, rfl, s39⟩ ?_ ?_
      · rintro j σ H10 hj ⟨x13, rfl, s310⟩
        have him : c.lo + (j : Int) ∈ inf c.lo c.hi := mem_inf.mpr ⟨by omega, by omega⟩
        obtain ⟨t, ht1, ht2⟩ := hbt _ hsm _ him
        have eB := g_law_beat_eq hP.w sml.shp (c.lo + (j : Int))
        rw [ht1] at eB
        refine ⟨[none, none, none, none, none, none, some (encS tb[i]), none, none, none, some (encW c.w), none, none, some (.int (c.lo + (j : Int)))], encS t, (env_no (env_no (env_no (env_no (env_no (env_no (env_c (dx.same (s03.trans s310)) (env_no (env_no (env_no (env_c (dw3.same s310) (env_no (env_no (env_c (.int _) env_nil)))))))))))))), ?_, fun v11 H11 s11 d11 => ?_⟩
        · simp -implicitDefEqProofs only [startD, sSeq, sSet, sRet, sIf, sSkip, sNever, sAsgG, sPar, fTup, f2, fSl, fPart, fNoPart, fVar, fC, fCons, fNil, fIf, fT, fCall, fIsa, fOrT, fAndT, fNotT, fAnd, fLc, fRng, fZip, fItemsT, fItemsL, List.map_cons, List.map_nil, List.length_cons, List.length_nil, List.replicate, List.cons_append, List.nil_append, List.getElem?_cons_zero, List.getElem?_cons_succ, List.set_cons_zero, List.set_cons_succ, Option.join_some, Option.join_none, Option.bind_some, Option.map_some, thenR_nx, thenR_rt, asI_int, asB_bool, gAdd_int, gSub_int, gMul_int, gCmpI_int, zBig, Nat.reduceAdd, Nat.reduceLeDiff, Nat.reduceSub, ite_true, ite_false, Bool.false_eq_true, decide_true, decide_false, gIs_none, decide_eq_true_eq, isD_tuple, isD_str, isD_int, isD_bool, isTuple_tuple, Bool.not_true, Bool.not_false, asTup_tup, asLst_lst, asRng_int, asZip_tup, wipeD, gNe, gEq, shaped_int, shaped_bool, shaped_none, and_self, condB_bool, eB]
          rfl
        refine ⟨_, rfl, d1, t, _, rfl, d11, (D1.same s310).same s11, _, rfl, ?_⟩
        rw [getS_in ht2]
        refine iteF ?_
        exact ⟨_, rfl, s310.trans s11⟩
      · rintro σ H10 ⟨x13, rfl, s310⟩
        exact ⟨_, _, rfl, s310⟩
    rintro σ H7 ⟨x6, x13, rfl, s37⟩
    have s07 := s03.trans s37
    -- a row
    refine ⟨_, rfl, [none, none, none, some (.tuple (tb.map encS)), none, none, none, none, none, none, none, none, none, none], .int (tb.length : Int), (env_no (env_no (env_no (env_c (dt.same s07) (env_no (env_no (env_no (env_no (env_no (env_no (env_no (env_no (env_no (env_no env_nil)))))))))))))), ?_, fun v8 H8 s8 dv8 => ?_⟩
    · simp -implicitDefEqProofs only [startD, sSeq, sSet, sRet, sIf, sSkip, sNever, sAsgG, sPar, fTup, f2, fSl, fPart, fNoPart, fVar, fC, fCons, fNil, fIf, fT, fCall, fIsa, fOrT, fAndT, fNotT, fAnd, fLc, fRng, fZip, fItemsT, fItemsL, List.map_cons, List.map_nil, List.length_cons, List.length_nil, List.replicate, List.cons_append, List.nil_append, List.getElem?_cons_zero, List.getElem?_cons_succ, List.set_cons_zero, List.set_cons_succ, Option.join_some, Option.join_none, Option.bind_some, Option.map_some, thenR_nx, thenR_rt, asI_int, asB_bool, gAdd_int, gSub_int, gMul_int, gCmpI_int, zBig, Nat.reduceAdd, Nat.reduceLeDiff, Nat.reduceSub, ite_true, ite_false, Bool.false_eq_true, decide_true, decide_false, gIs_none, decide_eq_true_eq, isD_tuple, isD_str, isD_int, isD_bool, isTuple_tuple, Bool.not_true, Bool.not_false, asTup_tup, asLst_lst, asRng_int, asZip_tup, wipeD, gNe, gEq, shaped_int, shaped_bool, shaped_none, and_self, condB_bool, gLen_tup, List.length_map]
    obtain rfl := dp_int dv8
    have s08 := s07.trans s8
    refine ⟨pm, (tb.length : Int), B, rfl, (by omega), (by omega), (by omega), hM.same s08, fun r H9 r0 r1 M9 f9 => ?_⟩
    have f09 : FrM K H H9 := (same_frm s08).trans f9
    have t9 := tabs_oth t0 f09.o
    have dt9 := f09.d _ _ (by show noLAll _ = true; exact noL_map noL_S tb) dt
    obtain ⟨k, rfl⟩ : ∃ k : Nat, r = (k : Int) := ⟨r.toNat, by omega⟩
    have hk : k < tb.length := by omega
    obtain ⟨hcok, hcno⟩ := hcut k hk
    -- the table without it
    refine ⟨[none, none, none, some (.tuple (tb.map encS)), none, none, none, some (.int (k : Int)), none, none, none, none, none, none], .tuple [.str "safe", .tuple ((tb.take k ++ tb.drop (k + 1)).map encS)], (env_no (env_no (env_no (env_c (dt9) (env_no (env_no (env_no (env_c (.int _) (env_no (env_no (env_no (env_no (env_no (env_no env_nil)))))))))))))), ?_, fun v10 H10 s10 d10 => ?_⟩
    · have e1 : gSl (.tuple (tb.map encS)) none (some (k : Int)) = some (.tuple ((tb.take k).map encS)) := by rw [gSl_tup, cutP_to, List.map_take]
      have e2 : gSl (.tuple (tb.map encS)) (some ((k : Int) + 1)) none = some (.tuple ((tb.drop (k + 1)).map encS)) := by
        rw [gSl_tup, show ((k : Int) + 1) = ((k + 1 : Nat) : Int) by omega, cutP_from, List.map_drop]
      have e3 : gAdd (.tuple ((tb.take k).map encS)) (.tuple ((tb.drop (k + 1)).map encS)) = some (.tuple ((tb.take k ++ tb.drop (k + 1)).map encS)) := by
        rw [gAdd_tup, if_pos, List.map_append]
        rw [List.length_map, List.length_map, List.length_take, List.length_drop]
        show _ ≤ 100000
        omega
      simp -implicitDefEqProofs only [startD, sSeq, sSet, sRet, sIf, sSkip, sNever, sAsgG, sPar, fTup, f2, fSl, fPart, fNoPart, fVar, fC, fCons, fNil, fIf, fT, fCall, fIsa, fOrT, fAndT, fNotT, fAnd, fLc, fRng, fZip, fItemsT, fItemsL, List.map_cons, List.map_nil, List.length_cons, List.length_nil, List.replicate, List.cons_append, List.nil_append, List.getElem?_cons_zero, List.getElem?_cons_succ, List.set_cons_zero, List.set_cons_succ, Option.join_some, Option.join_none, Option.bind_some, Option.map_some, thenR_nx, thenR_rt, asI_int, asB_bool, gAdd_int, gSub_int, gMul_int, gCmpI_int, zBig, Nat.reduceAdd, Nat.reduceLeDiff, Nat.reduceSub, ite_true, ite_false, Bool.false_eq_true, decide_true, decide_false, gIs_none, decide_eq_true_eq, isD_tuple, isD_str, isD_int, isD_bool, isTuple_tuple, Bool.not_true, Bool.not_false, asTup_tup, asLst_lst, asRng_int, asZip_tup, wipeD, gNe, gEq, shaped_int, shaped_bool, shaped_none, and_self, condB_bool, e1, e2, e3]
    have f010 := f09.trans (same_frm (K := K) s10)
    have t10 := tabs_same t9 s10
    -- it is refused
    have noC : noL (encC c) = true := rfl
    have noO : noL (encO n) = true := by cases n <;> rfl
    refine ref_go (c := c) (n := n) (p := .tab (tb.take k ++ tb.drop (k + 1))) (ρ := [none, some (encC c), some (encO n), none, none, none, none, none, some (.tuple [.str "safe", .tuple ((tb.take k ++ tb.drop (k + 1)).map encS)]), none, none, none, none, none]) t10 (env_no (env_c (f010.d _ _ noC dc) (env_c (f010.d _ _ noO dn) (env_no (env_no (env_no (env_no (env_no (env_c (d10) (env_no (env_no (env_no (env_no (env_no env_nil)))))))))))))) ?_ ⟨hP, hn, hcok⟩ hcno fun H11 e11 t11 => ?_
    · simp -implicitDefEqProofs only [startD, sSeq, sSet, sRet, sIf, sSkip, sNever, sAsgG, sPar, fTup, f2, fSl, fPart, fNoPart, fVar, fC, fCons, fNil, fIf, fT, fCall, fIsa, fOrT, fAndT, fNotT, fAnd, fLc, fRng, fZip, fItemsT, fItemsL, List.map_cons, List.map_nil, List.length_cons, List.length_nil, List.replicate, List.cons_append, List.nil_append, List.getElem?_cons_zero, List.getElem?_cons_succ, List.set_cons_zero, List.set_cons_succ, Option.join_some, Option.join_none, Option.bind_some, Option.map_some, thenR_nx, thenR_rt, asI_int, asB_bool, gAdd_int, gSub_int, gMul_int, gCmpI_int, zBig, Nat.reduceAdd, Nat.reduceLeDiff, Nat.reduceSub, ite_true, ite_false, Bool.false_eq_true, decide_true, decide_false, gIs_none, decide_eq_true_eq, isD_tuple, isD_str, isD_int, isD_bool, isTuple_tuple, Bool.not_true, Bool.not_false, asTup_tup, asLst_lst, asRng_int, asZip_tup, wipeD, gNe, gEq, shaped_int, shaped_bool, shaped_none, and_self, condB_bool]
      rfl
    refine ⟨rfl, _, rfl, ?_⟩
    have es : (!decide (V.str (wordPap (.tab (tb.take k ++ tb.drop (k + 1)))) = V.str "safe")) = false := str_ne (x := sSafe)
    rw [es]
    refine iteF ?_
    have f011 : FrD K H H11 := f010.d.trans fun v d _ h => Dp.extN e11 h
    have M11 := (M9.same s10).extN e11
    have dw11 : Dp K H11 vw (encW c.w) := Dp.extN e11 ((f9.d _ _ rfl ((dw3.same s37).same s8)).same s10)
    have di11 : Dp K H11 vi (.tuple [.int c.lo, .int c.hi]) := Dp.extN e11 ((f9.d _ _ rfl ((di3.same s37).same s8)).same s10)
    have dl11 : Dp K H11 vl (.tuple [.int c.frm, .int c.to]) := Dp.extN e11 ((f9.d _ _ rfl ((dl3.same s37).same s8)).same s10)
    -- two lesser claims
    refine ⟨[none, none, none, none, none, none, none, none, none, none, some (encW c.w), some (.tuple [.int c.lo, .int c.hi]), some (.tuple [.int c.frm, .int c.to]), none], .list [encC ⟨c.w, c.lo, c.lo, c.frm, c.to⟩, encC ⟨c.w, c.lo, c.hi, c.frm, c.frm⟩], (env_no (env_no (env_no (env_no (env_no (env_no (env_no (env_no (env_no (env_no (env_c (dw11) (env_c (di11) (env_c (dl11) (env_no env_nil)))))))))))))), ?_, fun v12 H12 s12 d12 => ?_⟩
    · have e1 : gMulT (.tuple [.int c.frm]) (.int 2) = some (.tuple [.int c.frm, .int c.frm]) := by
        rw [gMulT_tup, if_pos ⟨by simp, by decide, by decide, by simp⟩]
        rfl
      have e2 : gIx (.tuple [.int c.lo, .int c.hi]) (.int 0) = some (.int c.lo) := rfl
      have e3 : gIx (.tuple [.int c.frm, .int c.to]) (.int 0) = some (.int c.frm) := rfl
      simp -implicitDefEqProofs only [startD, sSeq, sSet, sRet, sIf, sSkip, sNever, sAsgG, sPar, fTup, f2, fSl, fPart, fNoPart, fVar, fC, fCons, fNil, fIf, fT, fCall, fIsa, fOrT, fAndT, fNotT, fAnd, fLc, fRng, fZip, fItemsT, fItemsL, List.map_cons, List.map_nil, List.length_cons, List.length_nil, List.replicate, List.cons_append, List.nil_append, List.getElem?_cons_zero, List.getElem?_cons_succ, List.set_cons_zero, List.set_cons_succ, Option.join_some, Option.join_none, Option.bind_some, Option.map_some, thenR_nx, thenR_rt, asI_int, asB_bool, gAdd_int, gSub_int, gMul_int, gCmpI_int, zBig, Nat.reduceAdd, Nat.reduceLeDiff, Nat.reduceSub, ite_true, ite_false, Bool.false_eq_true, decide_true, decide_false, gIs_none, decide_eq_true_eq, isD_tuple, isD_str, isD_int, isD_bool, isTuple_tuple, Bool.not_true, Bool.not_false, asTup_tup, asLst_lst, asRng_int, asZip_tup, wipeD, gNe, gEq, shaped_int, shaped_bool, shaped_none, and_self, condB_bool, fLst, e1, e2, e3]
      rfl
    have c1S : SmC ⟨c.w, c.lo, c.lo, c.frm, c.to⟩ := ⟨⟨hP.w, ⟨i1, Int.le_refl _, by show c.lo ≤ 300; omega⟩, ⟨h1, h2, h3⟩⟩, hc.top5, hc.run2, hc.rest2, hc.lag1, by have := hc.hi3; show c.lo ≤ 3; omega⟩
    have c2S : SmC ⟨c.w, c.lo, c.hi, c.frm, c.frm⟩ := ⟨⟨hP.w, ⟨i1, i2, i3⟩, ⟨h1, Int.le_refl _, by show c.frm ≤ c.w.top; omega⟩⟩, hc.top5, hc.run2, hc.rest2, hc.lag1, hc.hi3⟩
    have r1 := sub_safe hS c1S hn rfl (Int.le_refl _) i2 (Int.le_refl _) (Int.le_refl _) hruns
    have r2 := sub_safe hS c2S hn rfl (Int.le_refl _) (Int.le_refl _) (Int.le_refl _) h2 hruns
    have v1 := g_verdict_eq c1S hn r1
    have v2 := g_verdict_eq c2S hn r2
    have dn12 : Dp K H12 vn (encO n) := (f011 _ _ noO dn).same s12
    refine ⟨[none, none, some (encO n), none, none, none, none, none, none, some (.list [encC ⟨c.w, c.lo, c.lo, c.frm, c.to⟩, encC ⟨c.w, c.lo, c.hi, c.frm, c.frm⟩]), none, none, none, none], .bool true, (env_no (env_no (env_c (dn12) (env_no (env_no (env_no (env_no (env_no (env_no (env_c (d12) (env_no (env_no (env_no (env_no env_nil)))))))))))))), ?_, fun v13 H13 s13 d13 => ?_⟩
    · have z1 : SeqAt.shaped (.list [.str sSafe, .str sSafe]) = true := by decide +kernel
      have z2 : PyData.eqv (.list [.str sSafe, .str sSafe]) (.list [.str sSafe, .str sSafe]) = true := by decide +kernel
      simp -implicitDefEqProofs only [startD, sSeq, sSet, sRet, sIf, sSkip, sNever, sAsgG, sPar, fTup, f2, fSl, fPart, fNoPart, fVar, fC, fCons, fNil, fIf, fT, fCall, fIsa, fOrT, fAndT, fNotT, fAnd, fLc, fRng, fZip, fItemsT, fItemsL, List.map_cons, List.map_nil, List.length_cons, List.length_nil, List.replicate, List.cons_append, List.nil_append, List.getElem?_cons_zero, List.getElem?_cons_succ, List.set_cons_zero, List.set_cons_succ, Option.join_some, Option.join_none, Option.bind_some, Option.map_some, thenR_nx, thenR_rt, asI_int, asB_bool, gAdd_int, gSub_int, gMul_int, gCmpI_int, zBig, Nat.reduceAdd, Nat.reduceLeDiff, Nat.reduceSub, ite_true, ite_false, Bool.false_eq_true, decide_true, decide_false, gIs_none, decide_eq_true_eq, isD_tuple, isD_str, isD_int, isD_bool, isTuple_tuple, Bool.not_true, Bool.not_false, asTup_tup, asLst_lst, asRng_int, asZip_tup, wipeD, gNe, gEq, shaped_int, shaped_bool, shaped_none, and_self, condB_bool, lcRun, setN, v1, v2, noLAll, noL, Bool.and_self, fLst]
      show (if SeqAt.shaped (.list [.str sSafe, .str sSafe]) = true ∧ SeqAt.shaped (.list [.str sSafe, .str sSafe]) = true then some (PyData.bool (PyData.eqv (.list [.str sSafe, .str sSafe]) (.list [.str sSafe, .str sSafe]))) else none) = _
      rw [if_pos ⟨z1, z1⟩, z2]
    · rw [dp_bl d13]
      have s1213 := s12.trans s13
      exact q H13 (f011.trans (same_frd s1213)) (M11.same s1213) (tabs_same t11 s1213)
end
end Pm
set_option maxHeartbeats 4000000
/-! LK: the law's _law_right -/
namespace Pm
open PySem PySem.Spec PyProof.Rows L2 LamX
section
variable {P : Program} {w : World} {K : PySem.W.Frag} {mg : Str → Option Value} {base : Heap} {C : Addr}
/-- a def of the module, by its promise, where nothing is being shown -/
structure FnGX (P : Program) (w : World) (K : PySem.W.Frag) (mg : Str → Option Value) (base : Heap) (k : Nat) (x : Str) (ps : List Str) (sp : Sp) : Prop where
  ex : ∃ (a : Addr) (fd : FuncData), mg x = some (.ref a) ∧ PySem.W.keepIn K (.ref a) = true ∧ Binds K fd ps [] ∧ FnG P w K mg base k a fd ps sp
/-- what the least length tells -/
theorem short_cases {c : Cl} (hc : SmC c) {n : Option Int} (hn : NumOk n) {v : V} (h : ShortV c n v) :
    v = .non ∨ ∃ i : Int, v = .int i ∧ ((i = 0 ∧ (fin c n).runs = []) ∨ ∃ r rs, (fin c n).runs = r :: rs ∧ i = ((bestR r rs).2.2.length : Int) ∧ i ≠ 0) := by
  rcases h with h | ⟨h, k, h1, h2⟩ | ⟨k, h, h1, h2⟩
  · exact .inl h
  · exact .inr ⟨0, h, .inl ⟨rfl, fin_none hc hn h1 h2⟩⟩
  · obtain ⟨r, rs, e1, e2⟩ := fin_least hc hn h1 h2
    exact .inr ⟨_, h, .inr ⟨r, rs, e1, by rw [e2], by omega⟩⟩
theorem paper_safe {c : Cl} {n : Option Int} (h : (fin c n).runs = []) : paperS (fin c n) = encPap (.tab (tableS (fin c n))) := by
  unfold paperS
  rw [h]
  rfl
theorem paper_run {c : Cl} (hc : SmC c) {n : Option Int} (hn : NumOk n) {r : Rs × Int × List Int} {rs : List (Rs × Int × List Int)} (h : (fin c n).runs = r :: rs) : paperS (fin c n) = encPap (.run (bestR r rs).1 (bestR r rs).2.1 (bestR r rs).2.2) := by
  have hw := (best_of hc hn h).wd
  unfold paperS
  rw [h]
  show PyData.tuple [PyData.str (wordOf (bestR r rs).1), _] = PyData.tuple [encR (bestR r rs).1, _]
  rw [encR_word hw]
theorem paper_good {c : Cl} (hc : SmC c) {n : Option Int} (hn : NumOk n) : ∃ p, paperS (fin c n) = encPap p ∧ PapOk c n p ∧ resPap c n p = true := by
  cases h : (fin c n).runs with
  | nil => exact ⟨_, paper_safe h, ⟨hc.toCOk, hn, tab_part hc hn h (List.Sublist.refl _)⟩, tab_ok hc hn h⟩
  | cons r rs =>
    have B := best_of hc hn h
    exact ⟨_, paper_run hc hn h, ⟨hc.toCOk, hn, B.ok n⟩, B.res⟩
def spRight (TT : List (Addr × Str)) (K : PySem.W.Frag) : Sp := fun vs H Q _ => ∃ (pm : Addr) (vc vn : V) (c : Cl) (n : Option Int) (B : Int), vs = [.ref pm, vc, vn] ∧ DrC c ∧ NumOk n ∧ (∀ k, n = some k → fig k) ∧ MOk H pm B ∧ B ≤ 99000 ∧
  Dp K H vc (encC c) ∧ Dp K H vn (encO n) ∧ Tabs TT H ∧ ∀ H', FrD K H H' → MOk H' pm (B + 1) → Tabs TT H' → Q (.bl true) H'
theorem sc_lright : FnScope ["_law_m", "_law_claim_so", "_law_number_so", "_law_least_so", "_law_paper_so"] ["_law_m", "_law_claim_so", "_law_number_so"] (defScope (top 91)) := ⟨rfl, rfl, rfl, by decide +kernel, rfl, by decide +kernel, by decide +kernel⟩
theorem ok_right {f cF : Addr} {fd : FuncData} {TT : List (Addr × Str)} (F : FunL K "_law_right" (top 91) f cF fd) (T : Tx mg) (D_short : FnX P w K mg base 2 "_law_shortest" ["_law_claim_so", "_law_number_so"] (spShort K))
    (D_safety_paper : FnD P w K mg base 8 "safety_paper" g_safety_paper) (D_check_safety : FnD P w K mg base 5 "check_safety" g_check_safety)
    (D_table : FnGX P w K mg base 9 "_law_table_right" ["_law_m", "_law_claim_so", "_law_number_so", "_law_table_so"] (spTableRight TT K)) (D_run : FnGX P w K mg base 11 "_law_run_right" ["_law_claim_so", "_law_number_so", "_law_paper_so", "_law_least_so"] (spRunRight TT K)) :
    FnG P w K mg base 12 f fd ["_law_m", "_law_claim_so", "_law_number_so"] (spRight TT K) := by
  obtain ⟨aS, fdS, mS, kS, bS, GS⟩ := D_short.ex
  obtain ⟨aT, fdT, mT, kT, bT, GT⟩ := D_table.ex
  obtain ⟨aR, fdR, mR, kR, bR, GR⟩ := D_run.ex
  refine F.okG sc_lright (fun vs H Q h => ?_) (fun A outer s H vs Q hg hr h => ?_)
  · obtain ⟨pm, vc, vn, c, n, B, rfl, _⟩ := h
    rfl
  · obtain ⟨pm, vc, vn, c, n, B, rfl, hc, hn, hf, hM, hB, dc, dn, t0, q⟩ := h
    refine ⟨_, pss_cons (ps_set (i := 3) sc_lright.nd rfl (Or.inl rfl) (pe_call GS (hr.mono (by decide)) rfl mS kS bS .nil pass0 (pa_cons (pv 1) (pa_cons (pv 2) pa_nil))))
      (pss_cons (ps_if (pt_cmpR op_isN (pv 3) pe_non (nomark _)) (pss_one (ps_ret pe_bl)) pss_nil)
      (pss_cons (ps_set (i := 4) sc_lright.nd rfl (Or.inl rfl) (d_call D_safety_paper (hr.mono (by decide)) (da_cons (pd 1) (da_cons (pd 2) da_nil))))
      (pss_cons (ps_if (pt_cmpR op_ne (pe_callB (call_repr hg hr.u66) (by rfl) T.b_repr bt_repr (pa_cons (d_call D_safety_paper (hr.mono (by decide)) (da_cons (pd 1) (da_cons (pd 2) da_nil))) pa_nil)) (pe_callB (call_repr hg hr.u66) (by rfl) T.b_repr bt_repr (pa_cons (pv 4) pa_nil)) (nomark _)) (pss_one (ps_ret pe_bl)) pss_nil)
      (pss_cons (ps_if (t_cmp (op_neD hr.units) ov_ne (d_call D_check_safety (hr.mono (by decide)) (da_cons (pd 1) (da_cons (pd 2) (da_cons (pd 4) da_nil)))) (d_ix (pd 4) d_int) (nomark _)) (pss_one (ps_ret pe_bl)) pss_nil)
      (pss_cons (ps_if (pt_cmpR op_eq (pv 3) pe_int (nomark _))
        (pss_one (ps_ret (pe_and (d_cmp (op_eqD hr.units) ov_eq (d_ix (pd 4) d_int) d_str (nomark _)) (pe_one (pe_callG GT hg (hr.mono (by decide)) mT kT bT (pa_cons (pv 0) (pa_cons (pv 1) (pa_cons (pv 2) (pa_cons (d_ix (pd 4) d_int) pa_nil))))))))) pss_nil)
      (pss_one (ps_ret (pe_and (d_cmp (op_inT hr.u66) ov_in (d_ix (pd 4) d_int) (d_tup (da_cons d_str (da_cons d_str da_nil))) (by rfl)) (pe_one (pe_callG GR hg (hr.mono (by decide)) mR kR bR (pa_cons (pv 1) (pa_cons (pv 2) (pa_cons (pv 4) (pa_cons (pv 3) pa_nil)))))))))))))), ?_⟩
    have hS := hc.toSmC
    -- least
    refine ⟨_, rfl, _, rfl, vc, vn, c, n, rfl, hS, hn, dc, dn, fun v1 H1 hv s1 => ?_⟩
    rcases short_cases hS hn hv with rfl | ⟨i, rfl, hcase⟩
    · refine ⟨_, rfl, rfl, _, rfl, ?_⟩
      refine iteT ?_
      exact q H1 (same_frd s1) ((hM.same s1).mono (by omega)) (tabs_same t0 s1)
    refine ⟨_, rfl, rfl, _, rfl, ?_⟩
    refine iteF ?_
    -- paper
    have eP := g_safety_paper_eq hS hn
    refine ⟨[none, some (encC c), some (encO n), none, none], paperS (fin c n), (env_no (env_c (dc.same s1) (env_c (dn.same s1) (env_no (env_no env_nil))))), ?_, fun v2 H2 s2 d2 => ?_⟩
    · simp -implicitDefEqProofs only [startD, sSeq, sSet, sRet, sIf, sSkip, sNever, sAsgG, sPar, fTup, f2, fSl, fPart, fNoPart, fVar, fC, fCons, fNil, fIf, fT, fCall, fIsa, fOrT, fAndT, fNotT, fAnd, fLc, fRng, fZip, fItemsT, fItemsL, List.map_cons, List.map_nil, List.length_cons, List.length_nil, List.replicate, List.cons_append, List.nil_append, List.getElem?_cons_zero, List.getElem?_cons_succ, List.set_cons_zero, List.set_cons_succ, Option.join_some, Option.join_none, Option.bind_some, Option.map_some, thenR_nx, thenR_rt, asI_int, asB_bool, gAdd_int, gSub_int, gMul_int, gCmpI_int, zBig, Nat.reduceAdd, Nat.reduceLeDiff, Nat.reduceSub, ite_true, ite_false, Bool.false_eq_true, decide_true, decide_false, gIs_none, decide_eq_true_eq, isD_tuple, isD_str, isD_int, isD_bool, isTuple_tuple, Bool.not_true, Bool.not_false, asTup_tup, asLst_lst, asRng_int, asZip_tup, wipeD, gNe, gEq, shaped_int, shaped_bool, shaped_none, and_self, condB_bool, eP]
    have s12 := s1.trans s2
    have S := shows_paper hS hn
    obtain ⟨p, ep, pok, pres⟩ := paper_good hS hn
    have tup : ∃ ds, paperS (fin c n) = .tuple ds := by rw [ep]; cases p <;> exact ⟨_, rfl⟩
    obtain ⟨ds, eds⟩ := tup
    -- repr(safety_paper(..)) != repr(paper)
    refine ⟨[none, some (encC c), some (encO n), none, none], paperS (fin c n), (env_no (env_c (dc.same s12) (env_c (dn.same s12) (env_no (env_no env_nil))))), ?_, fun v3 H3 s3 d3 => ?_⟩
    · simp -implicitDefEqProofs only [startD, sSeq, sSet, sRet, sIf, sSkip, sNever, sAsgG, sPar, fTup, f2, fSl, fPart, fNoPart, fVar, fC, fCons, fNil, fIf, fT, fCall, fIsa, fOrT, fAndT, fNotT, fAnd, fLc, fRng, fZip, fItemsT, fItemsL, List.map_cons, List.map_nil, List.length_cons, List.length_nil, List.replicate, List.cons_append, List.nil_append, List.getElem?_cons_zero, List.getElem?_cons_succ, List.set_cons_zero, List.set_cons_succ, Option.join_some, Option.join_none, Option.bind_some, Option.map_some, thenR_nx, thenR_rt, asI_int, asB_bool, gAdd_int, gSub_int, gMul_int, gCmpI_int, zBig, Nat.reduceAdd, Nat.reduceLeDiff, Nat.reduceSub, ite_true, ite_false, Bool.false_eq_true, decide_true, decide_false, gIs_none, decide_eq_true_eq, isD_tuple, isD_str, isD_int, isD_bool, isTuple_tuple, Bool.not_true, Bool.not_false, asTup_tup, asLst_lst, asRng_int, asZip_tup, wipeD, gNe, gEq, shaped_int, shaped_bool, shaped_none, and_self, condB_bool, eP]
    have d2' := d2
    have d3' := d3
    rw [eds] at d2' d3'
    obtain ⟨a2, u2, rfl, _, _⟩ := dp_tup d2'
    obtain ⟨a3, u3, rfl, _, _⟩ := dp_tup d3'
    refine ⟨a3, _, rfl, d3, S.sh, S.nd, S.dp, S.ln, ?_⟩
    refine ⟨_, rfl, a2, _, rfl, d2.same s3, S.sh, S.nd, S.dp, S.ln, ?_⟩
    refine ⟨rfl, _, rfl, ?_⟩
    rw [str_ne]
    refine iteF ?_
    have s13 := s12.trans s3
    have d2b := d2.same s3
    -- check_safety(..) != paper[0]
    refine ⟨[none, some (encC c), some (encO n), none, some (encPap p)], false, (env_no (env_c (dc.same s13) (env_c (dn.same s13) (env_no (env_c ((ep ▸ d2b)) env_nil))))), ?_, fun H4 s4 => ?_⟩
    · have e1 := g_check_safety_eq pok pres
      have e2 := ixPap0 pok.ok
      have e3 := shaped_word pok.ok
      simp -implicitDefEqProofs only [startD, sSeq, sSet, sRet, sIf, sSkip, sNever, sAsgG, sPar, fTup, f2, fSl, fPart, fNoPart, fVar, fC, fCons, fNil, fIf, fT, fCall, fIsa, fOrT, fAndT, fNotT, fAnd, fLc, fRng, fZip, fItemsT, fItemsL, List.map_cons, List.map_nil, List.length_cons, List.length_nil, List.replicate, List.cons_append, List.nil_append, List.getElem?_cons_zero, List.getElem?_cons_succ, List.set_cons_zero, List.set_cons_succ, Option.join_some, Option.join_none, Option.bind_some, Option.map_some, thenR_nx, thenR_rt, asI_int, asB_bool, gAdd_int, gSub_int, gMul_int, gCmpI_int, zBig, Nat.reduceAdd, Nat.reduceLeDiff, Nat.reduceSub, ite_true, ite_false, Bool.false_eq_true, decide_true, decide_false, gIs_none, decide_eq_true_eq, isD_tuple, isD_str, isD_int, isD_bool, isTuple_tuple, Bool.not_true, Bool.not_false, asTup_tup, asLst_lst, asRng_int, asZip_tup, wipeD, gNe, gEq, shaped_int, shaped_bool, shaped_none, and_self, condB_bool, e1, e2, e3, eqv_str]
    refine iteF ?_
    have s14 := s13.trans s4
    have d4 := d2b.same s4
    have M4 := hM.same s14
    have t4 := tabs_same t0 s14
    rcases hcase with ⟨rfl, hr0⟩ | ⟨r, rs, hr0, hi, hi0⟩
    · -- safe
      refine ⟨_, rfl, rfl, _, rfl, ?_⟩
      refine iteT ?_
      rw [paper_safe hr0] at d4
      have e0 : encPap (.tab (tableS (fin c n))) = .tuple [.str sSafe, .tuple ((tableS (fin c n)).map encS)] := rfl
      rw [e0] at d4
      refine ⟨[none, none, none, none, some (.tuple [.str sSafe, .tuple ((tableS (fin c n)).map encS)])], .bool true, (env_no (env_no (env_no (env_no (env_c (d4) env_nil))))), ?_, fun v5 H5 s5 d5 => ?_⟩
      · have e1 : gIx (.tuple [.str sSafe, .tuple ((tableS (fin c n)).map encS)]) (.int 0) = some (.str sSafe) := rfl
        have e2 : PyData.eqv (.str sSafe) (.str "safe") = true := eqv_str sSafe
        have e3 : SeqAt.shaped (.str "safe") = true := shaped_safe
        simp -implicitDefEqProofs only [startD, sSeq, sSet, sRet, sIf, sSkip, sNever, sAsgG, sPar, fTup, f2, fSl, fPart, fNoPart, fVar, fC, fCons, fNil, fIf, fT, fCall, fIsa, fOrT, fAndT, fNotT, fAnd, fLc, fRng, fZip, fItemsT, fItemsL, List.map_cons, List.map_nil, List.length_cons, List.length_nil, List.replicate, List.cons_append, List.nil_append, List.getElem?_cons_zero, List.getElem?_cons_succ, List.set_cons_zero, List.set_cons_succ, Option.join_some, Option.join_none, Option.bind_some, Option.map_some, thenR_nx, thenR_rt, asI_int, asB_bool, gAdd_int, gSub_int, gMul_int, gCmpI_int, zBig, Nat.reduceAdd, Nat.reduceLeDiff, Nat.reduceSub, ite_true, ite_false, Bool.false_eq_true, decide_true, decide_false, gIs_none, decide_eq_true_eq, isD_tuple, isD_str, isD_int, isD_bool, isTuple_tuple, Bool.not_true, Bool.not_false, asTup_tup, asLst_lst, asRng_int, asZip_tup, wipeD, gNe, gEq, shaped_int, shaped_bool, shaped_none, and_self, condB_bool, e1, e2, e3, shaped_safe]
      obtain rfl := dp_bl d5
      refine ⟨true, rfl, ?_⟩
      rw [if_pos rfl]
      have s15 := s14.trans s5
      refine ⟨_, rfl, _, rfl, _, rfl, [none, none, none, none, some (.tuple [.str sSafe, .tuple ((tableS (fin c n)).map encS)])], .tuple ((tableS (fin c n)).map encS), (env_no (env_no (env_no (env_no (env_c (d4.same s5) env_nil))))), rfl, fun v6 H6 s6 d6 => ?_⟩
      have s16 := s15.trans s6
      exact ⟨pm, vc, vn, v6, c, n, B, rfl, hc, hn, hr0, hM.same s16, hB, dc.same s16, dn.same s16, d6, tabs_same t0 s16, fun H7 f7 M7 t7 => q H7 ((same_frd s16).trans f7) M7 t7⟩
    · -- a run
      refine ⟨_, rfl, rfl, _, rfl, ?_⟩
      have ne : decide (V.int i = V.int 0) = false := decide_eq_false fun z => hi0 (by injection z)
      rw [ne]
      refine iteF ?_
      have hb := best_of hS hn hr0
      rw [paper_run hS hn hr0, ← encRun_pap hb.wd] at d4
      subst hi
      generalize bestR r rs = b at hb d4
      have e0 : encRun b = .tuple [.str (wordOf b.1), .tuple [.int b.2.1, encI b.2.2]] := rfl
      refine ⟨[none, none, none, none, some (encRun b)], .bool true, (env_no (env_no (env_no (env_no (env_c (d4) env_nil))))), ?_, fun v5 H5 s5 d5 => ?_⟩
      · have e1 : gIx (encRun b) (.int 0) = some (.str (wordOf b.1)) := rfl
        have e2 : gIn (.str (wordOf b.1)) (.tuple [.str "over", .str "dry"]) = some (.bool true) := by
          have hw := hb.wd
          have hs : SeqAt.shaped (.tuple [.str "over", .str "dry"]) = true := by decide +kernel
          cases h : b.1 with
          | st t => rw [h] at hw; cases hw
          | over =>
            show gIn (.str sOver) _ = _
            rw [gIn_tup, if_pos ⟨shaped_over, hs⟩]
            exact congrArg (fun b => some (PyData.bool b)) (by decide +kernel)
          | dry =>
            show gIn (.str sDry) _ = _
            rw [gIn_tup, if_pos ⟨shaped_dry, hs⟩]
            exact congrArg (fun b => some (PyData.bool b)) (by decide +kernel)
        simp -implicitDefEqProofs only [startD, sSeq, sSet, sRet, sIf, sSkip, sNever, sAsgG, sPar, fTup, f2, fSl, fPart, fNoPart, fVar, fC, fCons, fNil, fIf, fT, fCall, fIsa, fOrT, fAndT, fNotT, fAnd, fLc, fRng, fZip, fItemsT, fItemsL, List.map_cons, List.map_nil, List.length_cons, List.length_nil, List.replicate, List.cons_append, List.nil_append, List.getElem?_cons_zero, List.getElem?_cons_succ, List.set_cons_zero, List.set_cons_succ, Option.join_some, Option.join_none, Option.bind_some, Option.map_some, thenR_nx, thenR_rt, asI_int, asB_bool, gAdd_int, gSub_int, gMul_int, gCmpI_int, zBig, Nat.reduceAdd, Nat.reduceLeDiff, Nat.reduceSub, ite_true, ite_false, Bool.false_eq_true, decide_true, decide_false, gIs_none, decide_eq_true_eq, isD_tuple, isD_str, isD_int, isD_bool, isTuple_tuple, Bool.not_true, Bool.not_false, asTup_tup, asLst_lst, asRng_int, asZip_tup, wipeD, gNe, gEq, shaped_int, shaped_bool, shaped_none, and_self, condB_bool, e1, e2]
      obtain rfl := dp_bl d5
      refine ⟨true, rfl, ?_⟩
      rw [if_pos rfl]
      have s15 := s14.trans s5
      refine ⟨_, rfl, _, rfl, _, rfl, _, rfl, vc, vn, .ref a2, c, n, b, rfl, hc, hn, hf, hb, dc.same s15, dn.same s15, d4.same s5, tabs_same t0 s15, fun H6 e6 t6 => ?_⟩
      exact q H6 ((same_frd s15).trans fun v d _ h => Dp.extN e6 h) (((hM.same s15).extN e6).mono (by omega)) t6
end
end Pm
set_option maxHeartbeats 4000000
/-! MH: how many pumps are ever busy -/
namespace Pm
open PySem PySem.Spec PyProof.Rows L2
theorem busy_le {c : Cl} (hc : SmC c) {n : Option Int} {s : Sst} (h : Sml c n s) : busy c.w s ≤ 50 := by
  have h1 := h.rsum
  have h2 := h.shp.rests
  have h3 := hc.rest2
  have h4 := hc.w.starts
  have h5 : s.rests.sum ≤ 8 := by
    have h6 := h.rests
    cases q : s.rests with
    | nil => simp
    | cons a l =>
      cases l with
      | nil =>
        have := h6 a (by rw [q]; exact List.mem_cons_self)
        simp
        omega
      | cons b l =>
        rw [q] at h2
        simp at h2
        omega
  have h6 : startedS c.w s ≤ 5 := by
    unfold startedS
    split
    · split
      · omega
      · split <;> omega
    · omega
  unfold busy busyS
  omega
theorem bz_one {c : Cl} (hc : SmC c) {n : Option Int} {T : Sr × List Sst} {e : Ent} (he : Sml c n e.st) (h : T.1.bz ≤ 50) (i : Int) : (one c.w e i T).1.bz ≤ 50 := by
  have hb : (one c.w e i T).1.bz = if busy c.w e.st > T.1.bz then busy c.w e.st else T.1.bz := by
    unfold one
    cases beatS c.w e.st i <;> simp only <;> split <;> rfl
  have := busy_le hc he
  rw [hb]
  split <;> omega
theorem bz_srN {c : Cl} (hc : SmC c) {n : Option Int} (hn : NumOk n) : ∀ k, (srN c n k).1.bz ≤ 50
  | 0 => by show (0 : Int) ≤ 50; omega
  | k + 1 => by
    have G := Good.srN hc hn k
    have ih := bz_srN hc hn k
    have := layM_inv (w := c.w) (is := inf c.lo c.hi) (Pr := fun T => Good c n T ∧ T.1.bz ≤ 50) (srN c n k).2 ((srN c n k).1, []) ⟨G.lay0, ih⟩ fun s hs e T1 hq h1 i hi T2 h2 h3 => by
      obtain ⟨h4, h5⟩ := findE_st h2
      exact ⟨h3.1.one hc h5 hi, bz_one hc (h3.1.sm e h5) h3.2 i⟩
    exact this.2
theorem fin_bz {c : Cl} (hc : SmC c) {n : Option Int} (hn : NumOk n) : (fin c n).bz ≤ 50 := by
  unfold fin
  split
  · exact bz_srN hc hn _
  · show (0 : Int) ≤ 50
    omega
end Pm
set_option maxHeartbeats 4000000
/-! LL: the law -/
namespace Pm
open PySem PySem.Spec PyProof.Rows L2 LamX
section
variable {P : Program} {w : World} {K : PySem.W.Frag} {mg : Str → Option Value} {base : Heap} {C : Addr} {H : Hp}
theorem dp_four {tp : Addr} (h : Dp K H (.ref tp) (.tuple [.int 0, .int 1, .int 2, .none])) : SqT K H tp [V.int 0, V.int 1, V.int 2, V.non] := by
  obtain ⟨p, xs, e, hs, d⟩ := dp_tup h
  cases e
  cases d with
  | cons d1 d => cases d with
    | cons d2 d => cases d with
      | cons d3 d => cases d with
        | cons d4 d =>
          cases d
          cases d1
          cases d2
          cases d3
          cases d4
          exact hs
theorem four_at {i : Nat} {x : V} (h : [V.int 0, V.int 1, V.int 2, V.non][i]? = some x) : ∃ n : Option Int, (∀ H, Dp K H x (encO n)) ∧ NumOk n ∧ ∀ k, n = some k → fig k := by
  have key : ∀ k : Int, 0 ≤ k → k ≤ 9 → ∃ n : Option Int, (∀ H, Dp K H (V.int k) (encO n)) ∧ NumOk n ∧ ∀ k, n = some k → fig k := fun k a b =>
    ⟨some k, fun H => .int k, fun z e => by cases e; omega, fun z e => by cases e; exact ⟨a, b⟩⟩
  match i, h with
  | 0, h => cases h; exact key 0 (by decide) (by decide)
  | 1, h => cases h; exact key 1 (by decide) (by decide)
  | 2, h => cases h; exact key 2 (by decide) (by decide)
  | 3, h => cases h; exact ⟨none, fun H => .non, fun z e => (nomatch e), fun z e => (nomatch e)⟩
  | i + 4, h => simp at h
theorem three_at {L : Int} {i : Nat} {x : V} (hL : 1 ≤ L ∧ L ≤ 50) (h : [V.int L, V.int (L + 1), V.int 50][i]? = some x) : ∃ k : Int, x = .int k ∧ L ≤ k := by
  match i, h with
  | 0, h => cases h; exact ⟨_, rfl, by omega⟩
  | 1, h => cases h; exact ⟨_, rfl, by omega⟩
  | 2, h => cases h; exact ⟨_, rfl, by omega⟩
  | i + 3, h => simp at h
def spLaw (TT : List (Addr × Str)) (K : PySem.W.Frag) : Sp := fun vs H Q _ => ∃ (a : Addr) (ns : List Int), vs = [.ref a] ∧ SqL K H a (ns.map V.int) ∧ ns.length ≤ 63 ∧ Tabs TT H ∧ ∀ H', Q (.bl true) H'
theorem sc_law : FnScope ["_law_script", "_law_m", "_law_turn", "_law_claim_so", "_law_number_so", "_law_last", "_law_paper_so"] ["_law_script"] (defScope (top 92)) := ⟨rfl, rfl, rfl, by decide +kernel, rfl, by decide +kernel, by decide +kernel⟩
theorem ok_law {f cF : Addr} {fd : FuncData} {TT : List (Addr × Str)} (F : FunL K "law" (top 92) f cF fd) (T : Tx mg) (D_start : FnX P w K mg base 1 "_law_start" ["_law_script"] (spStart K)) (D_small : FnX P w K mg base 2 "_law_small" ["_law_m"] (spSmall K))
    (D_short : FnX P w K mg base 2 "_law_shortest" ["_law_claim_so", "_law_number_so"] (spShort K)) (D_claim_text : FnD P w K mg base 4 "claim_text" g_claim_text) (D_read_claim : FnD P w K mg base 4 "read_claim" g_read_claim)
    (D_cut : FnD P w K mg base 8 "cut" g_cut) (D_safety_paper : FnD P w K mg base 8 "safety_paper" g_safety_paper) (D_check_safety : FnD P w K mg base 5 "check_safety" g_check_safety)
    (D_right : FnGX P w K mg base 12 "_law_right" ["_law_m", "_law_claim_so", "_law_number_so"] (spRight TT K)) :
    FnG P w K mg base 13 f fd ["_law_script"] (spLaw TT K) := by
  obtain ⟨aS, fdS, mS, kS, bS, GS⟩ := D_short.ex
  obtain ⟨aB, fdB, mB, kB, bB, GB⟩ := D_start.ex
  obtain ⟨aM, fdM, mM, kM, bM, GM⟩ := D_small.ex
  obtain ⟨aR, fdR, mR, kR, bR, GR⟩ := D_right.ex
  obtain ⟨aX, fdX, psX, mX, kX, bX, GX⟩ := D_claim_text.ex
  obtain ⟨aY, fdY, psY, mY, kY, bY, GY⟩ := D_read_claim.ex
  refine F.okG sc_law (fun vs H Q h => ?_) (fun A outer s H vs Q hg hr h => ?_)
  · obtain ⟨a, ns, rfl, _⟩ := h
    rfl
  · obtain ⟨a, ns, rfl, ha, hl, t0, q⟩ := h
    refine ⟨_, pss_cons (ps_set (i := 1) sc_law.nd rfl (Or.inl rfl) (pe_call GB (hr.mono (by decide)) rfl mB kB bB .nil pass0 (pa_cons (pv 0) pa_nil)))
      (pss_cons (ps_for PassesOwn.never rfl (pi_range1 (by rfl) T.b_range (pa_cons (pe_op op_add pe_int (pe_callB (call_min2 rfl) (by rfl) T.b_min bt_min (pa_cons (pe_callB call_lenP (by rfl) T.b_len bt_len (pa_cons (pv 0) pa_nil)) (pa_cons pe_int pa_nil)))) pa_nil)) (pg_name (i := 2) sc_law.nd rfl (Or.inl rfl))
        (pss_cons (ps_set (i := 3) sc_law.nd rfl (Or.inl rfl) (pe_call GY (hr.mono (by decide)) rfl mY kY bY .nil pass0 (pa_cons (pe_call GX (hr.mono (by decide)) rfl mX kX bX .nil pass0 (pa_cons (pe_call GM (hr.mono (by decide)) rfl mM kM bM .nil pass0 (pa_cons (pv 1) pa_nil)) pa_nil)) pa_nil)))
        (pss_cons (ps_for PassesOwn.never rfl (pi_tup (pe_tup (pa_cons pe_int (pa_cons pe_int (pa_cons pe_int (pa_cons pe_non pa_nil)))))) (pg_name (i := 4) sc_law.nd rfl (Or.inl rfl))
          (pss_one (ps_if (pt_not (pt_val (pe_callG GR hg hr mR kR bR (pa_cons (pv 1) (pa_cons (pv 3) (pa_cons (pv 4) pa_nil)))) (by intro _; rfl))) (pss_one (ps_ret pe_bl)) pss_nil)))
        (pss_one (ps_if (pt_cmpR op_notN (pe_call GS (hr.mono (by decide)) rfl mS kS bS .nil pass0 (pa_cons (pv 3) (pa_cons pe_non pa_nil))) pe_non (nomark _))
          (pss_cons (ps_par (i := 5) (j := 6) rfl sc_law.nd rfl rfl (by decide) rfl rfl (pa_cons (d_call D_cut (hr.mono (by decide)) (da_cons (pd 3) da_nil)) (pa_cons (d_call D_safety_paper (hr.mono (by decide)) (da_cons (pd 3) (da_cons d_non da_nil))) pa_nil)) rfl rfl)
          (pss_one (ps_for PassesOwn.never rfl (pi_tup (pe_tup (pa_cons (pv 5) (pa_cons (pe_op op_add (pv 5) pe_int) (pa_cons pe_int pa_nil))))) (pg_name (i := 4) sc_law.nd rfl (Or.inl rfl))
            (pss_one (ps_if (PW.pt (w_and (t_cmp op_lt (ov_cmpI _) (pd 4) d_int (nomark _)) (w_and1 (t_cmp (op_neD hr.units) ov_ne (d_ix (pd 6) d_int) d_str (nomark _)))))
              (pss_one (ps_if (t_cmp (op_neD hr.units) ov_ne (d_call D_check_safety (hr.mono (by decide)) (da_cons (pd 3) (da_cons (pd 4) (da_cons (pd 6) da_nil)))) (d_ix (pd 6) d_int) (nomark _)) (pss_one (ps_ret pe_bl)) pss_nil)) pss_nil))))) pss_nil)))))
      (pss_one (ps_ret pe_bl))), ?_⟩
    -- the draws
    refine ⟨_, rfl, .ref a, ns, rfl, .lst ha (DpAll.of_ints ns), hl, fun pm H1 s1 M1 => ?_⟩
    have t1 := tabs_same t0 s1
    -- the turns
    refine ⟨_, rfl, .inl ⟨a, _, rfl, .inl (s1.seq ha), ?_⟩⟩
    refine ⟨_, _, rfl, ?_⟩
    refine ⟨_, _, rfl, rfl, ?_⟩
    rw [List.length_map]
    refine ⟨_, rfl, (by split <;> omega), (by split <;> omega), ?_⟩
    have hN : (1 + (if 3 < (ns.length : Int) then 3 else (ns.length : Int))).toNat ≤ 4 := by split <;> omega
    generalize (1 + (if 3 < (ns.length : Int) then 3 else (ns.length : Int))).toNat = N at hN
    let Pv : Nat → L2.St → Hp → Prop := fun j σ H' => ∃ (x2 x3 x4 x5 x6 : Option V), σ = [some (.ref a), some (.ref pm), x2, x3, x4, x5, x6] ∧ MOk H' pm (17 * (j : Int)) ∧ Tabs TT H'
    refine for_range Pv ⟨none, none, none, none, none, rfl, M1.mono (by omega), t1⟩ ?_ ?_
    · rintro j σ H2 hj ⟨x2, x3, x4, x5, x6, rfl, M2, t2⟩
      -- a claim
      refine ⟨_, rfl, pm, 17 * (j : Int), rfl, (by omega), M2, fun v3 c H3 hc d3 M3 f3 => ?_⟩
      refine ⟨[encC c], .str (txtC c), .cons d3 .nil, g_claim_text_eq hc, fun v4 H4 s4 d4 => ?_⟩
      refine ⟨[.str (txtC c)], encC c, .cons d4 .nil, g_read_claim_eq hc, fun v5 H5 s5 d5 => ?_⟩
      have hS := hc.toSmC
      have s35 := s4.trans s5
      have M5 := M3.same s35
      have t5 := tabs_same (tabs_oth t2 f3.o) s35
      -- the numbers
      refine ⟨(by show 4 ≤ sizeLine; decide), fun tp htp => ?_⟩
      have s6 : Same H5 (upd H5 tp (.tup [.int 0, .int 1, .int 2, .non])) := Same.new htp
      have dtp : Dp K (upd H5 tp (.tup [.int 0, .int 1, .int 2, .non])) (.ref tp) (.tuple [.int 0, .int 1, .int 2, .none]) := .tup (SqT.of upd_same) (.cons (.int _) (.cons (.int _) (.cons (.int _) (.cons .non .nil))))
      generalize upd H5 tp (.tup [.int 0, .int 1, .int 2, .non]) = H6 at s6 dtp
      have d6 := d5.same s6
      have M6 := M5.same s6
      have t6 := tabs_same t5 s6
      let Pv2 : Nat → L2.St → Hp → Prop := fun i σ H' => ∃ (x4 : Option V), σ = [some (.ref a), some (.ref pm), some (.int (0 + (j : Int))), some v5, x4, x5, x6] ∧ Dp K H' (.ref tp) (.tuple [.int 0, .int 1, .int 2, .none]) ∧ Dp K H' v5 (encC c) ∧ MOk H' pm (17 * (j : Int) + 13 + (i : Int)) ∧ Tabs TT H'
      refine ⟨tp, rfl, ⟨_, dp_four dtp⟩, for_tup (xs := [V.int 0, V.int 1, V.int 2, V.non]) Pv2 ⟨_, rfl, dtp, d6, M6.mono (by omega), t6⟩ (fun i σ H' _ ⟨_, _, h, _⟩ => dp_four h) ?_ ?_⟩
      · rintro i x σ H7 hx ⟨x4, rfl, dt7, d7, M7, t7⟩
        have hi : i < 4 := (List.getElem?_eq_some_iff.mp hx).1
        obtain ⟨n, dx, hn, hf⟩ := four_at (K := K) hx
        refine ⟨_, rfl, _, rfl, _, rfl, pm, v5, x, c, n, _, rfl, hc, hn, hf, M7, (by omega), d7, dx _, t7, fun H8 f8 M8 t8 => ?_⟩
        refine ⟨true, rfl, ?_⟩
        refine iteF ?_
        exact ⟨_, rfl, f8 _ _ rfl dt7, f8 _ _ rfl d7, M8.mono (by omega), t8⟩
      rintro σ H7 ⟨x4, rfl, dt7, d7, M7, t7⟩
      have M7 : MOk H7 pm (17 * (j : Int) + 17) := M7.mono (by show 17 * (j : Int) + 13 + 4 ≤ _; omega)
      -- without end
      refine ⟨_, rfl, v5, .non, c, none, rfl, hS, numOk_none, d7, .non, fun v8 H8 hv s8 => ?_⟩
      have M8 := M7.same s8
      have t8 := tabs_same t7 s8
      rcases short_cases hS numOk_none hv with rfl | ⟨i, rfl, _⟩
      · refine ⟨rfl, _, rfl, ?_⟩
        rw [show (!decide (V.non = V.non)) = false by simp]
        refine iteF ?_
        exact ⟨_, _, _, _, _, rfl, M8.mono (by omega), t8⟩
      refine ⟨rfl, _, rfl, ?_⟩
      rw [show (!decide (V.int i = V.non)) = true by simp]
      refine iteT ?_
      have d8 := d7.same s8
      -- cut, paper
      have eC := g_cut_eq hS
      have eP := g_safety_paper_eq hS numOk_none
      have hbz := fin_bz hS numOk_none
      have hL : 1 ≤ (if (fin c none).bz > 1 then (fin c none).bz else 1) ∧ (if (fin c none).bz > 1 then (fin c none).bz else 1) ≤ 50 ∧ (fin c none).bz ≤ (if (fin c none).bz > 1 then (fin c none).bz else 1) := by split <;> omega
      generalize (if (fin c none).bz > 1 then (fin c none).bz else 1) = L at eC hL
      refine ⟨[none, none, none, some (encC c), none, none, none], .int L, (env_no (env_no (env_no (env_c (d8) (env_no (env_no (env_no env_nil))))))), ?_, fun v9 H9 s9 d9 => ?_⟩
      · simp -implicitDefEqProofs only [startD, sSeq, sSet, sRet, sIf, sSkip, sNever, sAsgG, sPar, fTup, f2, fSl, fPart, fNoPart, fVar, fC, fCons, fNil, fIf, fT, fCall, fIsa, fOrT, fAndT, fNotT, fAnd, fLc, fRng, fZip, fItemsT, fItemsL, List.map_cons, List.map_nil, List.length_cons, List.length_nil, List.replicate, List.cons_append, List.nil_append, List.getElem?_cons_zero, List.getElem?_cons_succ, List.set_cons_zero, List.set_cons_succ, Option.join_some, Option.join_none, Option.bind_some, Option.map_some, thenR_nx, thenR_rt, asI_int, asB_bool, gAdd_int, gSub_int, gMul_int, gCmpI_int, zBig, Nat.reduceAdd, Nat.reduceLeDiff, Nat.reduceSub, ite_true, ite_false, Bool.false_eq_true, decide_true, decide_false, gIs_none, decide_eq_true_eq, isD_tuple, isD_str, isD_int, isD_bool, isTuple_tuple, Bool.not_true, Bool.not_false, asTup_tup, asLst_lst, asRng_int, asZip_tup, wipeD, gNe, gEq, shaped_int, shaped_bool, shaped_none, and_self, condB_bool, eC]
      obtain rfl := dp_int d9
      refine ⟨[none, none, none, some (encC c), none, none, none], paperS (fin c none), (env_no (env_no (env_no (env_c (d8.same s9) (env_no (env_no (env_no env_nil))))))), ?_, fun v10 H10 s10 d10 => ?_⟩
      · show fCall g_safety_paper _ _ = _
        simp -implicitDefEqProofs only [startD, sSeq, sSet, sRet, sIf, sSkip, sNever, sAsgG, sPar, fTup, f2, fSl, fPart, fNoPart, fVar, fC, fCons, fNil, fIf, fT, fCall, fIsa, fOrT, fAndT, fNotT, fAnd, fLc, fRng, fZip, fItemsT, fItemsL, List.map_cons, List.map_nil, List.length_cons, List.length_nil, List.replicate, List.cons_append, List.nil_append, List.getElem?_cons_zero, List.getElem?_cons_succ, List.set_cons_zero, List.set_cons_succ, Option.join_some, Option.join_none, Option.bind_some, Option.map_some, thenR_nx, thenR_rt, asI_int, asB_bool, gAdd_int, gSub_int, gMul_int, gCmpI_int, zBig, Nat.reduceAdd, Nat.reduceLeDiff, Nat.reduceSub, ite_true, ite_false, Bool.false_eq_true, decide_true, decide_false, gIs_none, decide_eq_true_eq, isD_tuple, isD_str, isD_int, isD_bool, isTuple_tuple, Bool.not_true, Bool.not_false, asTup_tup, asLst_lst, asRng_int, asZip_tup, wipeD, gNe, gEq, shaped_int, shaped_bool, shaped_none, and_self, condB_bool]
        exact eP
      refine ⟨_, _, rfl, ?_⟩
      -- cut and more
      refine ⟨_, rfl, _, rfl, ?_⟩
      refine ⟨_, _, rfl, rfl, ?_⟩
      refine ⟨(by show 3 ≤ sizeLine; decide), fun tq htq => ?_⟩
      have s11 : Same H10 (upd H10 tq (.tup [.int L, .int (L + 1), .int 50])) := Same.new htq
      have htq11 : SqT K (upd H10 tq (.tup [.int L, .int (L + 1), .int 50])) tq [.int L, .int (L + 1), .int 50] := SqT.of upd_same
      generalize upd H10 tq (.tup [.int L, .int (L + 1), .int 50]) = H11 at s11 htq11
      have s811 := (s9.trans s10).trans s11
      have d11 := d8.same s811
      have dp11 := d10.same s11
      let Pv3 : Nat → L2.St → Hp → Prop := fun i σ H' => ∃ (x4 : Option V), σ = [some (.ref a), some (.ref pm), some (.int (0 + (j : Int))), some v5, x4, some (.int L), some v10] ∧ Same H11 H'
      refine ⟨tq, rfl, ⟨_, htq11⟩, for_tup (xs := [V.int L, V.int (L + 1), V.int 50]) Pv3 ⟨_, rfl, Same.refl _⟩ (fun i σ H' _ ⟨_, _, h⟩ => same_t h htq11) ?_ ?_⟩
      · rintro i2 x σ H12 hx ⟨x4, rfl, s12⟩
        obtain ⟨k, rfl, hk⟩ := three_at ⟨hL.1, hL.2.1⟩ hx
        have d12 := d11.same s12
        have dp12 := dp11.same s12
        have eN : ∀ z : Str, PyData.eqv (.str z) (.str "safe") = decide (z = "safe") := fun z => eqv_strs z "safe"
        have zs : SeqAt.shaped (.str "safe") = true := shaped_safe
        have kk : ∀ (wd : Str) (rest : List PyData), gIx (.tuple (.str wd :: rest)) (.int 0) = some (.str wd) := fun wd rest => by rw [gIx_tup, atI_z]
        cases hr0 : (fin c none).runs with
        | nil =>
          rw [paper_safe hr0] at dp12
          have e0 : encPap (.tab (tableS (fin c none))) = .tuple [.str sSafe, .tuple ((tableS (fin c none)).map encS)] := rfl
          rw [e0] at dp12
          refine ⟨[none, none, none, none, some (.int k), none, some (.tuple [.str sSafe, .tuple ((tableS (fin c none)).map encS)])], false, (env_no (env_no (env_no (env_no (env_c (.int k) (env_no (env_c (dp12) env_nil))))))), ?_, fun H13 s13 => ?_⟩
          · have e2 : PyData.eqv (.str sSafe) (.str "safe") = true := eqv_str sSafe
            simp -implicitDefEqProofs only [startD, sSeq, sSet, sRet, sIf, sSkip, sNever, sAsgG, sPar, fTup, f2, fSl, fPart, fNoPart, fVar, fC, fCons, fNil, fIf, fT, fCall, fIsa, fOrT, fAndT, fNotT, fAnd, fLc, fRng, fZip, fItemsT, fItemsL, List.map_cons, List.map_nil, List.length_cons, List.length_nil, List.replicate, List.cons_append, List.nil_append, List.getElem?_cons_zero, List.getElem?_cons_succ, List.set_cons_zero, List.set_cons_succ, Option.join_some, Option.join_none, Option.bind_some, Option.map_some, thenR_nx, thenR_rt, asI_int, asB_bool, gAdd_int, gSub_int, gMul_int, gCmpI_int, zBig, Nat.reduceAdd, Nat.reduceLeDiff, Nat.reduceSub, ite_true, ite_false, Bool.false_eq_true, decide_true, decide_false, gIs_none, decide_eq_true_eq, isD_tuple, isD_str, isD_int, isD_bool, isTuple_tuple, Bool.not_true, Bool.not_false, asTup_tup, asLst_lst, asRng_int, asZip_tup, wipeD, gNe, gEq, shaped_int, shaped_bool, shaped_none, and_self, condB_bool, kk, zs, shaped_safe, e2]
            split <;> rfl
          refine iteF ?_
          exact ⟨_, rfl, s12.trans s13⟩
        | cons r rs =>
          have hb := best_of hS numOk_none hr0
          rw [paper_run hS numOk_none hr0] at dp12
          generalize bestR r rs = b at hb dp12
          have pok : okPap c none (.run b.1 b.2.1 b.2.2) := hb.ok none
          have e2 := eqv_safe pok
          have e3 := shaped_word pok
          have e4 := ixPap0 pok
          refine ⟨[none, none, none, none, some (.int k), none, some (encPap (.run b.1 b.2.1 b.2.2))], decide (k < 51), (env_no (env_no (env_no (env_no (env_c (.int k) (env_no (env_c (dp12) env_nil))))))), ?_, fun H13 s13 => ?_⟩
          · simp -implicitDefEqProofs only [startD, sSeq, sSet, sRet, sIf, sSkip, sNever, sAsgG, sPar, fTup, f2, fSl, fPart, fNoPart, fVar, fC, fCons, fNil, fIf, fT, fCall, fIsa, fOrT, fAndT, fNotT, fAnd, fLc, fRng, fZip, fItemsT, fItemsL, List.map_cons, List.map_nil, List.length_cons, List.length_nil, List.replicate, List.cons_append, List.nil_append, List.getElem?_cons_zero, List.getElem?_cons_succ, List.set_cons_zero, List.set_cons_succ, Option.join_some, Option.join_none, Option.bind_some, Option.map_some, thenR_nx, thenR_rt, asI_int, asB_bool, gAdd_int, gSub_int, gMul_int, gCmpI_int, zBig, Nat.reduceAdd, Nat.reduceLeDiff, Nat.reduceSub, ite_true, ite_false, Bool.false_eq_true, decide_true, decide_false, gIs_none, decide_eq_true_eq, isD_tuple, isD_str, isD_int, isD_bool, isTuple_tuple, Bool.not_true, Bool.not_false, asTup_tup, asLst_lst, asRng_int, asZip_tup, wipeD, gNe, gEq, shaped_int, shaped_bool, shaped_none, and_self, condB_bool, e2, e3, e4, zs, isTab]
            by_cases h51 : k < 51
            · simp [h51]
            · simp [h51]
          by_cases h51 : k < 51
          · rw [decide_eq_true h51]
            refine iteT ?_
            have hnk : NumOk (some k) := fun z e => by cases e; omega
            have pokk : PapOk c (some k) (.run b.1 b.2.1 b.2.2) := ⟨hS.toCOk, hnk, hb.ok _⟩
            have ec := g_check_safety_eq pokk (hb.more hS (by omega))
            refine ⟨[none, none, none, some (encC c), some (encO (some k)), none, some (encPap (.run b.1 b.2.1 b.2.2))], false, (env_no (env_no (env_no (env_c (d12.same s13) (env_c (.int k) (env_no (env_c (dp12.same s13) env_nil))))))), ?_, fun H14 s14 => ?_⟩
            · simp -implicitDefEqProofs only [startD, sSeq, sSet, sRet, sIf, sSkip, sNever, sAsgG, sPar, fTup, f2, fSl, fPart, fNoPart, fVar, fC, fCons, fNil, fIf, fT, fCall, fIsa, fOrT, fAndT, fNotT, fAnd, fLc, fRng, fZip, fItemsT, fItemsL, List.map_cons, List.map_nil, List.length_cons, List.length_nil, List.replicate, List.cons_append, List.nil_append, List.getElem?_cons_zero, List.getElem?_cons_succ, List.set_cons_zero, List.set_cons_succ, Option.join_some, Option.join_none, Option.bind_some, Option.map_some, thenR_nx, thenR_rt, asI_int, asB_bool, gAdd_int, gSub_int, gMul_int, gCmpI_int, zBig, Nat.reduceAdd, Nat.reduceLeDiff, Nat.reduceSub, ite_true, ite_false, Bool.false_eq_true, decide_true, decide_false, gIs_none, decide_eq_true_eq, isD_tuple, isD_str, isD_int, isD_bool, isTuple_tuple, Bool.not_true, Bool.not_false, asTup_tup, asLst_lst, asRng_int, asZip_tup, wipeD, gNe, gEq, shaped_int, shaped_bool, shaped_none, and_self, condB_bool, ec, e3, e4, eqv_str]
            refine iteF ?_
            exact ⟨_, rfl, (s12.trans s13).trans s14⟩
          · rw [decide_eq_false h51]
            refine iteF ?_
            exact ⟨_, rfl, s12.trans s13⟩
      · rintro σ H12 ⟨x4, rfl, s12⟩
        have s812 := s811.trans s12
        exact ⟨_, _, _, _, _, rfl, (M8.same s812).mono (by omega), tabs_same t8 s812⟩
    · rintro σ H2 ⟨x2, x3, x4, x5, x6, rfl, M2, t2⟩
      exact q H2
end
end Pm
set_option maxHeartbeats 4000000
/-! EA: the law called by its caller, where nothing is being shown -/
namespace Pm
open PySem PySem.Spec PyProof.Rows L2 LamX
/-- what is known of the heap when the law is called -/
structure Called (K : PySem.W.Frag) (mg mb : Str → Option Value) (cs : List (Addr × Addr)) (s : Shared) (a : Addr) (vs : List Value) (ns : List Int) : Prop where
  kin : K.In s.heap
  gl : s.heap.Ns mainGlobals mg
  bn : s.heap.Ns builtinsNs mb
  bb : ∀ x : Str, x ≠ "__name__" → mb x = bootBuiltins x
  lim : s.heap.NoLimit
  gens : s.gens = #[]
  tab : ∀ p ∈ cs, s.heap.get? p.2 = some { cls := .none, data := .fields #[] }
  notK : ∀ p ∈ cs, K.lookup p.2 = none
  code : ∀ p ∈ cs, PySem.W.CodeHd s.heap p.1 p.2
  bm : ∃ (bm : Addr) (ob : Obj), mg "__builtins__" = some (.ref bm) ∧ bm ≠ builtinsNs ∧ s.heap.get? bm = some ob ∧ ob.cls = .type "module" ∧ ob.dict = some builtinsNs ∧ ob.data = .plain
  scr : s.heap.get? a = some { cls := .type "list", data := .seq vs.toArray }
  isI : IntsAre vs ns
  len : ns.length ≤ sizeLine
/-- what is tracked: the tables, and the script (if it is none of the kept objects) -/
structure Tracked (P : Program) (w : World) (K : PySem.W.Frag) (cs : List (Addr × Addr)) (s : Shared) (a : Addr) (ns : List Int) (H : Hp) : Prop where
  tb : ∀ p ∈ cs, H p.2 = some (.tbl #[])
  at_ : ∀ b u, H b = some u → (b = a ∧ K.lookup a = none ∧ ∃ o xs, u = .frz o (.lst xs)) ∨ b ∈ cs.map (·.2)
  sq : SqL K H a (ns.map V.int)
  ok : HOk P w H s.heap
section
variable {P : Program} {w : World} {K : PySem.W.Frag} {mg mb : Str → Option Value} {cs : List (Addr × Addr)} {s : Shared} {a : Addr} {vs : List Value} {ns : List Int}
theorem Called.isT (c : Called K mg mb cs s a vs ns) {b : Addr} (h : b ∈ cs.map (·.2)) : s.heap.get? b = some { cls := .none, data := .fields #[] } := by
  obtain ⟨p, hp, rfl⟩ := List.mem_map.mp h
  exact c.tab p hp
theorem Called.aT (c : Called K mg mb cs s a vs ns) : a ∉ cs.map (·.2) := fun h => by
  have e := c.isT h
  rw [c.scr] at e
  exact Data.noConfusion (congrArg Obj.data (Option.some.inj e))
theorem Called.tracked (c : Called K mg mb cs s a vs ns) : ∃ H, Tracked P w K cs s a ns H := by
  have rv := vals_ints c.isI
  have hl := c.len
  have lv := c.isI.length
  have hT : ∀ p ∈ cs, p.2 ∈ cs.map (·.2) := fun p hp => List.mem_map.mpr ⟨p, hp, rfl⟩
  cases hk : K.lookup a with
  | some o =>
    have e : o = { cls := .type "list", data := .seq vs.toArray } := by
      have := c.kin a o hk
      rw [c.scr] at this
      exact (Option.some.inj this).symm
    subst e
    refine ⟨fun b => if b ∈ cs.map (·.2) then some (.tbl #[]) else none, fun p hp => if_pos (hT p hp), fun b u h => ?_, .inr ⟨_, vs.toArray, _, hk, rfl, rfl, rfl, by rw [List.size_toArray, lv]; exact hl, by simpa using rv⟩, fun b u h => ?_⟩
    · by_cases hb : b ∈ cs.map (·.2)
      · exact .inr hb
      · rw [if_neg hb] at h
        cases h
    · by_cases hb : b ∈ cs.map (·.2)
      · rw [if_pos hb] at h
        cases h
        exact c.isT hb
      · rw [if_neg hb] at h
        cases h
  | none =>
    refine ⟨fun b => if b ∈ cs.map (·.2) then some (.tbl #[]) else if b = a then some (.frz { cls := .type "list", data := .seq vs.toArray } (.lst (ns.map V.int))) else none, fun p hp => if_pos (hT p hp), fun b u h => ?_, .inl (.inr ⟨{ cls := .type "list", data := .seq vs.toArray }, ?_⟩), fun b u h => ?_⟩
    · by_cases hb : b ∈ cs.map (·.2)
      · exact .inr hb
      · rw [if_neg hb] at h
        by_cases ha : b = a
        · rw [if_pos ha] at h
          exact .inl ⟨ha, hk, _, _, (Option.some.inj h).symm⟩
        · rw [if_neg ha] at h
          cases h
    · show (if a ∈ cs.map (·.2) then _ else _) = _
      rw [if_neg c.aT, if_pos rfl]
    · by_cases hb : b ∈ cs.map (·.2)
      · rw [if_pos hb] at h
        cases h
        exact c.isT hb
      · rw [if_neg hb] at h
        by_cases ha : b = a
        · rw [if_pos ha] at h
          cases h
          rw [ha]
          exact ⟨c.scr, by rw [List.length_map]; exact hl, vs, _, rv, c.scr⟩
        · rw [if_neg ha] at h
          cases h
section
variable {H : Hp}
/-- neither a list nor a table stands untracked -/
theorem Tracked.free (t : Tracked P w K cs s a ns H) (c : Called K mg mb cs s a vs ns) {b : Addr} {o : Obj} (e : s.heap.get? b = some o) (h1 : ∀ its n, o.data ≠ .seq its n) (h2 : o.data ≠ .fields #[]) : H b = none := by
  cases q : H b with
  | none => rfl
  | some u =>
    exfalso
    rcases t.at_ b u q with ⟨rfl, _⟩ | hb
    · rw [c.scr] at e
      cases e
      exact h1 _ _ rfl
    · rw [c.isT hb] at e
      cases e
      exact h2 rfl
theorem Tracked.nsK (t : Tracked P w K cs s a ns H) (c : Called K mg mb cs s a vs ns) {b : Addr} {m : Str → Option Value} (h : s.heap.Ns b m) : (hidT s.heap H).Ns b m := by
  obtain ⟨o, es, ep, e, hd, r⟩ := h
  exact ⟨o, es, ep, hidT_get e (t.free c e (fun _ _ z => by rw [hd] at z; cases z) fun z => by rw [hd] at z; cases z), hd, r⟩
theorem Tracked.kin (t : Tracked P w K cs s a ns H) (c : Called K mg mb cs s a vs ns) : K.In (hidT s.heap H) := fun b o e => by
  refine hidT_get (c.kin b o e) ?_
  cases q : H b with
  | none => rfl
  | some u =>
    exfalso
    rcases t.at_ b u q with ⟨rfl, hk, _⟩ | hb
    · rw [e] at hk
      cases hk
    · obtain ⟨p, hp, rfl⟩ := List.mem_map.mp hb
      rw [c.notK p hp] at e
      cases e
theorem Tracked.tabB (t : Tracked P w K cs s a ns H) (c : Called K mg mb cs s a vs ns) : ∀ p ∈ cs, TabB (hidT s.heap H) mg p.1 p.2 := fun p hp => by
  have hT := c.tab p hp
  obtain ⟨oG, esG, epG, eG, dG, _⟩ := c.gl
  refine ⟨?_, ?_, fun z => ?_⟩
  · obtain ⟨o, us, file, tf, flags, tg, inF, text, tt, e1, r1, r2, r3, r⟩ := c.code p hp
    refine ⟨o, us, file, tf, flags, tg, inF, text, tt, hidT_get e1 (t.free c e1 (fun _ _ z => ?_) fun z => ?_), r1, r2, r3, r⟩
    · rw [r2] at z
      cases z
    · rw [r2] at z
      injection z with z
      subst z
      simp at r3
  · obtain ⟨bm, ob, b1, b2, b3, b4, b5, b6⟩ := c.bm
    refine ⟨bm, ob, b1, b2, fun q => ?_, fun q => ?_, hidT_get b3 (t.free c b3 (fun _ _ z => ?_) fun z => ?_), b4, b5, b6⟩
    · rw [q, eG] at b3
      cases b3
      rw [dG] at b6
      cases b6
    · rw [q, hT] at b3
      cases b3
      cases b6
    · rw [b6] at z
      cases z
    · rw [b6] at z
      cases z
  · rw [z, hT] at eG
    cases eG
    cases dG
theorem Tracked.env0 (t : Tracked P w K cs s a ns H) (c : Called K mg mb cs s a vs ns) : Env0 P w K mg (hidT s.heap H) callerA [] s H where
  frames := rfl
  mod := ⟨t.kin c, t.nsK c c.gl, ⟨mb, t.nsK c c.bn, c.bb⟩, by
    obtain ⟨mc, h1, h2⟩ := c.lim
    exact ⟨mc, t.nsK c h1, h2⟩⟩
  bs := fun b o e => of_hidT e
  bsz := Nat.le_of_eq (hidT_size _ _)
  funs := trivial
  frf := fun b hb => by cases hb
  hok := t.ok
  bare := .of_eq c.gens
/-- the law's call ends in True, and all that stood before stands -/
theorem law_endG {k : Nat} {fa : Addr} {fd : FuncData} {x : Str} {sp : Sp} (c : Called K mg mb cs s a vs ns) (hr : Room k callerA) (F : ∀ base : Heap, K.In base → base.Ns mainGlobals mg → (∀ p ∈ cs, TabB base mg p.1 p.2) → FnG P w K mg base k fa fd [x] sp)
    (hb : ∀ (s : Shared) (u : Value), BindsTo s fd ⟨[u], []⟩ [(x, u)]) (hsp : ∀ H : Hp, (∀ p ∈ cs, H p.2 = some (.tbl #[])) → SqL K H a (ns.map V.int) → sp [.ref a] H (fun v _ => v = .bl true) E0) :
    codeAny (model P w) callerA (.call (.ref fa) ⟨[.ref a], []⟩) (fun r s' => r = .ok (.ret (.bool true)) ∧ OldK s.heap s'.heap ∧ s'.os = s.os ∧ AllBare s'.gens) s := by
  obtain ⟨H, t⟩ := c.tracked (P := P) (w := w)
  refine codeAny_mono ((F _ (t.kin c) (t.nsK c c.gl) (t.tabB c)).run callerA [] s H ⟨[.ref a], []⟩ [.ref a] [.ref a] _ rfl hr (t.env0 c) (hb s (.ref a)) (.cons rfl .nil) (hsp H t.tb t.sq)) fun r s' h => ?_
  match r, h with
  | .ok (.ret u), h =>
    obtain ⟨v, H', os, bare, un, ok', rv, q⟩ := h
    have q : v = .bl true := q
    subst q
    obtain rfl : u = Value.bool true := rv
    have stay : ∀ b o, b ∉ cs.map (·.2) → s.heap.get? b = some o → s'.heap.get? b = some o := fun b o nb e => by
      cases hb : H b with
      | none => exact un.keep b o e hb (fun z => by cases z) (fun z => by cases z)
      | some u =>
        rcases t.at_ b u hb with ⟨_, _, ob, xs, rfl⟩ | z
        · obtain ⟨e1, _⟩ := t.ok b _ hb
          obtain ⟨e2, _⟩ := ok' b _ (un.frzs b ob _ hb)
          rw [e] at e1
          cases e1
          exact e2
        · exact absurd z nb
    have grow : ∀ p ∈ cs, ∃ more : Array Value, s'.heap.get? p.2 = some { cls := .none, data := .fields more } := fun p hp => by
      obtain ⟨more, z⟩ := un.tbls p.2 #[] (t.tb p hp)
      exact ⟨_, ok' p.2 _ z⟩
    refine ⟨rfl, ⟨fun b o e => ?_, fun b o e => ?_⟩, os, bare⟩
    · by_cases hb : b ∈ cs.map (·.2)
      · obtain ⟨p, hp, rfl⟩ := List.mem_map.mp hb
        obtain ⟨more, hm⟩ := grow p hp
        have hT := c.tab p hp
        rw [hT] at e
        cases e
        exact .inr (.inl ⟨((c.code p hp).tab hT).isCodeTable, rfl, #[], more, rfl, by rw [Array.empty_append]; exact hm⟩)
      · exact .inl (stay b o hb e)
    · by_cases hb : b ∈ cs.map (·.2)
      · obtain ⟨p, hp, rfl⟩ := List.mem_map.mp hb
        obtain ⟨more, hm⟩ := grow p hp
        exact ⟨_, hm⟩
      · exact ⟨o, stay b o hb e⟩
  | .ok .next, h => exact h.elim
  | .ok .brk, h => exact h.elim
  | .ok .cont, h => exact h.elim
  | .error e, h => exact (show False from h).elim
end
end
end Pm
set_option maxHeartbeats 4000000
/-! EB0: what is looked at behind the top: a property's getter, BadPaper, the code objects that make lambdas -/
namespace PySem
namespace BadX
open PySem.W PySem.Calls PyProof.Rows PySem.HandSPX
theorem isN_ok {v : Value} (h : isN v = true) : v = .none := by
  cases v <;> first | rfl | cases h
theorem ba {a b : Bool} (h : (a && b) = true) : a = true ∧ b = true := Bool.and_eq_true_iff.mp h
theorem clsB_ok {K : Frag} {C : Addr} (h : clsB K C = true) : ∃ nm q N bs bm sn sub ab col dd k0 k1 k2 k3 k5, K.lookup C = some (excClassObj nm q C N bs bm true sn sub ab col dd k0 k1 k2 k3 k5 "ValueError.__new__") ∧ refsVE bm = true := by
  unfold clsB at h
  cases e : K.lookup C with
  | none => rw [e] at h; cases h
  | some o =>
    rw [e] at h
    obtain ⟨oc, od, dt, sl⟩ := o
    cases oc with
    | type t =>
      cases dt with
      | cls cd =>
        simp only at h
        split at h
        · rename_i C' bm k0 k1 k2 k3 n k5 hm hs
          obtain ⟨h1, h⟩ := ba h
          obtain ⟨h2, h⟩ := ba h
          obtain ⟨h3, h⟩ := ba h
          obtain ⟨h4, h⟩ := ba h
          obtain ⟨h5, h6⟩ := ba h
          obtain rfl := of_decide_eq_true h1
          obtain rfl := of_decide_eq_true h2
          obtain rfl := of_decide_eq_true h3
          obtain ⟨nm, bs, mro, N, q, hd, sn, sub, ab, col, dl⟩ := cd
          obtain ⟨l⟩ := sl
          simp only at h4 h5 hm hs
          have h4 : dl = false := by cases dl <;> first | rfl | cases h4
          subst h4 h5 hs hm
          exact ⟨nm, q, N, bs, bm, sn, sub, ab, col, od, k0, k1, k2, k3, k5, rfl, h6⟩
        · cases h
      | _ => cases h
    | _ => cases dt <;> cases h
theorem ini_ok {K : Frag} {C fI : Addr} {file : Str} (h : iniB K C fI file = true) (e : fnAt K fI = (some ("__init__", "BadPaper.__init__", L2.defArgs sIni, .stmts (L2.defBody sIni), L2.defScope sIni, mainGlobals, ["__class__"], builtinsNs) : FnV2)) :
    ∃ (oc : Value) (od : Option Addr) (doc pm : Value) (an : Option Addr) (cda : Addr) (ct : Value) (cc : Addr) (osl : Array (Option Value)) (ccl : Value) (cdd : Option Addr) (vs : Array Value) (ccs : Array (Option Value)) (file2 : Str) (tf : Tok) (cl : Value) (cld : Option Addr) (csl : Array (Option Value)),
    K.lookup fI = some ⟨oc, od, .func (ksFn "__init__" "BadPaper.__init__" (L2.defArgs sIni) (L2.defBody sIni) (L2.defScope sIni) .none .none doc pm an (.ref cda) ct cc), osl⟩ ∧ codeIn K (.ref cda) "BadPaper.__init__" = true ∧
    K.lookup cda = some ⟨ccl, cdd, .fields vs, ccs⟩ ∧ vs[2]? = some (.str file2 tf) ∧ (file == file2) = true ∧ K.lookup cc = some ⟨cl, cld, .cell (some (.ref C)), csl⟩ := by
  unfold iniB at h
  unfold fnAt at e
  cases q : K.lookup fI with
  | none => rw [q] at h; cases h
  | some o =>
    rw [q] at h e
    obtain ⟨oc, od, dt, osl⟩ := o
    cases dt with
    | func fd =>
      obtain ⟨n1, n2, n3, n4, n5, n6, n7, n8, n9, n10, n11, n12, n13, n14, n15⟩ := fd
      simp only [Option.some.injEq, Prod.mk.injEq] at e
      obtain ⟨e1, e2, e3, e4, e5, e6, e7, e8⟩ := e
      subst e1 e2 e3 e4 e5 e6 e8
      obtain ⟨h1, h⟩ := ba h
      obtain ⟨h1, h2⟩ := ba h1
      obtain ⟨h3, h⟩ := ba h
      obtain ⟨h4, h5⟩ := ba h
      obtain rfl := isN_ok h1
      obtain rfl := isN_ok h2
      simp only at h3 h4 h5
      cases n13 with
      | ref cda =>
        simp only at h4
        split at h4
        · rename_i ccl cdd vs ccs hc
          split at h4
          · rename_i f tf hv
            cases n7 with
            | nil => cases h5
            | cons yc r =>
              cases r with
              | cons _ _ => cases h5
              | nil =>
                obtain ⟨y, cc⟩ := yc
                obtain ⟨h5, h6⟩ := ba h5
                obtain rfl := of_decide_eq_true h5
                split at h6
                · rename_i cl cld C' csl hcc
                  obtain rfl := of_decide_eq_true h6
                  exact ⟨oc, od, n10, n11, n12, cda, n14, cc, osl, ccl, cdd, vs, ccs, f, tf, cl, cld, csl, rfl, h3, hc, hv, h4, hcc⟩
                · cases h6
          · cases h4
        · cases h4
      | _ => cases h4
    | _ => cases h
theorem bad_ok {prog : Program} {K : Frag} {mg : Str → Option Value} {C fI : Addr} (g1 : mg "BadPaper" = some (.ref C)) (g2 : mg "super" = none) (h : badB K C fI prog.main.file = true) (htop : (prog.main.scope.names.lookup ("super" : Str)).isSome = false)
    (e : fnAt K fI = (some ("__init__", "BadPaper.__init__", L2.defArgs sIni, .stmts (L2.defBody sIni), L2.defScope sIni, mainGlobals, ["__class__"], builtinsNs) : FnV2)) : BadTxt prog K mg C fI := by
  unfold badB at h
  obtain ⟨h1, h⟩ := ba h
  obtain ⟨h2, h⟩ := ba h
  obtain ⟨h3, h⟩ := ba h
  obtain ⟨h4, h⟩ := ba h
  obtain ⟨h5, h⟩ := ba h
  obtain ⟨h6, h⟩ := ba h
  obtain ⟨h7, h⟩ := ba h
  obtain ⟨h8, h⟩ := ba h
  obtain ⟨h9, h⟩ := ba h
  obtain ⟨h10, h⟩ := ba h
  obtain ⟨h11, h⟩ := ba h
  obtain ⟨h12, h⟩ := ba h
  obtain ⟨h13, h⟩ := ba h
  obtain ⟨h14, h⟩ := ba h
  obtain ⟨h15, h⟩ := ba h
  obtain ⟨h16, h17⟩ := ba h
  exact ⟨g1, g2, clsB_ok h1, of_decide_eq_true h3, of_decide_eq_true h4, of_decide_eq_true h5, of_decide_eq_true h6, of_decide_eq_true h7, of_decide_eq_true h8, h9, of_decide_eq_true h10, of_decide_eq_true h11, h12, of_decide_eq_true h13, of_decide_eq_true h14, of_decide_eq_true h15, of_decide_eq_true h16, of_decide_eq_true h17, htop, ini_ok h2 e⟩
end BadX
end PySem
namespace Pm
open PySem PySem.Spec PyProof.Rows L2 LamX
open PySem.BadX (ba isN isN_ok fnAt FnV2)
/-- a def without defaults -/
theorem fun_ofD {K : PySem.W.Frag} {x q : Str} {st : Stmt} {f : Addr} {fd : FuncData} (Q : FunD K x q (defArgs st) (defBody st) (defScope st) [] [] f fd) : Fun K x q st f fd := by
  obtain ⟨oc, od, dV, kV, doc, pm, an, cdv, ct, osl, h1, h2, h3, h4, _⟩ := Q.ex
  have hd : dV = .none := by
    rcases h4 with ⟨_, h⟩ | ⟨h, _⟩
    · exact h
    · exact absurd rfl h
  subst hd
  exact ⟨⟨oc, od, kV, doc, pm, an, cdv, ct, osl, h1, h2, h3⟩, Q.kp⟩
theorem funL_of {K : PySem.W.Frag} {x : Str} {st : Stmt} {fd : FuncData} (F : Fun K x x st (He.ga K x) fd) : FunL K x st (He.ga K x) (codeAt K x) fd := by
  obtain ⟨oc, od, kV, doc, pm, an, cdv, ct, osl, rfl, h2, h3⟩ := F.ex
  have e : cdv = .ref (codeAt K x) := by
    unfold codeAt
    rw [h2]
    cases cdv <;> first | rfl | cases h3
  subst e
  exact ⟨⟨oc, od, kV, doc, pm, an, ct, osl, rfl, h2, h3⟩, F.kp⟩
theorem codeB_ok {K : PySem.W.Frag} {h : Heap} (X : K.In h) {x : Str} (b : codeB K x = true) : PySem.W.CodeHd h (codeAt K x) (tabAt K x) ∧ K.lookup (tabAt K x) = none := by
  unfold codeB at b
  generalize hT : tabAt K x = T at b
  cases e : K.lookup (codeAt K x) with
  | none => rw [e] at b; cases b
  | some o =>
    rw [e] at b
    obtain ⟨oc, od, dt, osl⟩ := o
    cases oc with
    | type ty =>
      cases dt with
      | fields vs =>
        obtain ⟨h1, b⟩ := ba b
        obtain ⟨h2, b⟩ := ba b
        obtain ⟨h3, b⟩ := ba b
        obtain ⟨h4, b⟩ := ba b
        obtain ⟨h5, b⟩ := ba b
        obtain ⟨h6, b⟩ := ba b
        obtain ⟨h7, b⟩ := ba b
        obtain ⟨h8, h9⟩ := ba b
        obtain rfl := of_decide_eq_true h1
        have h2 := of_decide_eq_true h2
        have h3 := of_decide_eq_true h3
        have h8 : codeAt K x ≠ T := fun z => by rw [decide_eq_true z] at h8; cases h8
        refine ⟨?_, Option.isNone_iff_eq_none.mp h9⟩
        cases e18 : vs.getD 18 .none with
        | str file tf =>
          cases e7 : vs.getD 7 .none with
          | int flags tg =>
            cases e9 : vs.getD 9 .none with
            | bool inF =>
              cases e10 : vs.getD 10 .none with
              | int text tt => exact ⟨_, vs, file, tf, flags, tg, inF, text, tt, X _ _ e, rfl, rfl, h2, h3, e18, e7, e9, e10, h8⟩
              | _ => rw [e10] at h7; cases h7
            | _ => rw [e9] at h6; cases h6
          | _ => rw [e7] at h5; cases h5
        | _ => rw [e18] at h4; cases h4
      | _ => cases b
    | _ => cases dt <;> cases b
theorem prB_ok {K : PySem.W.Frag} (b : prB K = true) : PropOf K (He.ga K "Desk") "claim" (prAt K) (gtAt K) := by
  unfold prB at b
  obtain ⟨h1, b⟩ := ba b
  obtain ⟨h2, b⟩ := ba b
  obtain ⟨h3, h4⟩ := ba b
  refine ⟨of_decide_eq_true h1, of_decide_eq_true h2, of_decide_eq_true h3, ?_⟩
  unfold gtAt
  split at h4
  · rename_i g rest e
    rw [e]
    exact ⟨rest, rfl⟩
  · cases h4
theorem fnB_ok {K : PySem.W.Frag} {a : Addr} {x q : Str} {st : Stmt} (e : fnAt K a = (some (x, q, defArgs st, .stmts (defBody st), defScope st, mainGlobals, [], builtinsNs) : FnV2)) (b : fnB K a q = true) : ∃ fd, Fun K x q st a fd := by
  unfold fnB at b
  obtain ⟨h1, b⟩ := ba b
  unfold fnAt at e
  cases w : K.lookup a with
  | none => rw [w] at b; cases b
  | some o =>
    rw [w] at b e
    obtain ⟨oc, od, dt, osl⟩ := o
    cases dt with
    | func fd =>
      obtain ⟨n1, n2, n3, n4, n5, n6, n7, n8, n9, n10, n11, n12, n13, n14, n15⟩ := fd
      simp only [Option.some.injEq, Prod.mk.injEq, List.map_eq_nil_iff] at e
      obtain ⟨e1, e2, e3, e4, e5, e6, e7, e8⟩ := e
      subst e1 e2 e3 e4 e5 e6 e7 e8
      obtain ⟨h2, h3⟩ := ba b
      obtain rfl := isN_ok h2
      exact ⟨_, ⟨⟨oc, od, n9, n10, n11, n12, n13, n14, osl, rfl, w, h3⟩, h1⟩⟩
    | _ => cases b
end Pm
set_option maxHeartbeats 0
/-! EC: the law by the facts behind the top -/
namespace Pm
open PySem PySem.Spec PyProof.Rows L2 LamX
open PySem.BadX (fnAt FnV2 badB sIni)
section
variable {w : World} {K : PySem.W.Frag} {h : Heap} {mg : Str → Option Value}
theorem fnD_mk {P : Program} {K : PySem.W.Frag} {mg : Str → Option Value} {base : Heap} {k : Nat} {x : Str} {st : Stmt} {gg : List PyData → Option PyData} {a : Addr} {fd : FuncData} {ps : List Str} (F : Fun K x x st a fd) (hm : mg x = some (.ref a)) (b : Binds K fd ps []) (G : FnOk P w K mg base CX0 k a fd ps (spF gg K)) : FnD P w K mg base k x gg := ⟨a, fd, ps, hm, F.kp, b, G⟩
theorem tx_of (X : K.In h) (G : h.Ns mainGlobals mg) (cD : He.SaysD faM fnM K) : Tx mg :=
  ⟨He.free_ok X G (cD.fact 52 (f := .free "isinstance") rfl),
   He.free_ok X G (cD.fact 53 (f := .free "int") rfl),
   He.free_ok X G (cD.fact 54 (f := .free "bool") rfl),
   He.free_ok X G (cD.fact 55 (f := .free "str") rfl),
   He.free_ok X G (cD.fact 56 (f := .free "tuple") rfl),
   He.free_ok X G (cD.fact 57 (f := .free "list") rfl),
   He.free_ok X G (cD.fact 58 (f := .free "dict") rfl),
   He.free_ok X G (cD.fact 59 (f := .free "len") rfl),
   He.free_ok X G (cD.fact 60 (f := .free "sum") rfl),
   He.free_ok X G (cD.fact 61 (f := .free "min") rfl),
   He.free_ok X G (cD.fact 62 (f := .free "max") rfl),
   He.free_ok X G (cD.fact 63 (f := .free "all") rfl),
   He.free_ok X G (cD.fact 64 (f := .free "range") rfl),
   He.free_ok X G (cD.fact 65 (f := .free "zip") rfl),
   He.free_ok X G (cD.fact 66 (f := .free "sorted") rfl),
   He.free_ok X G (cD.fact 67 (f := .free "repr") rfl),
   He.free_ok X G (cD.fact 68 (f := .free "enumerate") rfl),
   He.free_ok X G (cD.fact 69 (f := .free "super") rfl),
   He.int_ok X G (cD.fact 70 (f := .int "MOST_TOP" 200) rfl),
   He.int_ok X G (cD.fact 71 (f := .int "MOST_DRAIN" 50) rfl),
   He.int_ok X G (cD.fact 72 (f := .int "MOST_AGE" 5) rfl),
   He.int_ok X G (cD.fact 73 (f := .int "MOST_STARTS" 5) rfl),
   He.int_ok X G (cD.fact 74 (f := .int "MOST_STEP" 20) rfl),
   He.int_ok X G (cD.fact 75 (f := .int "MOST_LAG" 3) rfl),
   He.int_ok X G (cD.fact 76 (f := .int "MOST_NUMBER" 50) rfl),
   He.int_ok X G (cD.fact 77 (f := .int "MOST_COUNT" 1000) rfl),
   He.int_ok X G (cD.fact 78 (f := .int "MOST_INFLOW" 300) rfl),
   He.int_ok X G (cD.fact 79 (f := .int "MOST_STATES" 20000) rfl),
   He.int_ok X G (cD.fact 80 (f := .int "MOST_FIGURES" 31) rfl),
   He.int_ok X G (cD.fact 81 (f := .int "MANY_LINES" 3) rfl),
   He.str_ok X G (cD.fact 82 (f := .str "OVER" "over") rfl),
   He.str_ok X G (cD.fact 83 (f := .str "DRY" "dry") rfl),
   He.str_ok X G (cD.fact 84 (f := .str "SAFE" "safe") rfl),
   He.str_ok X G (cD.fact 85 (f := .str "BOTH" "both") rfl),
   He.str_ok X G (cD.fact 86 (f := .str "LINE_END" "\n") rfl),
   He.str_ok X G (cD.fact 87 (f := .str "BLANK" " ") rfl),
   He.str_ok X G (cD.fact 88 (f := .str "DIGITS" "0123456789") rfl),
   He.str_ok X G (cD.fact 89 (f := .str "NO" "no") rfl),
   He.str_ok X G (cD.fact 90 (f := .str "NONE" "none") rfl),
   He.str_ok X G (cD.fact 91 (f := .str "DONE" "done") rfl),
   He.str_ok X G (cD.fact 92 (f := .str "BAR" "|") rfl),
   He.str_ok X G (cD.fact 93 (f := .str "ENDLESS" "endless") rfl)⟩
abbrev csM (K : PySem.W.Frag) : List (Addr × Addr) := [(codeAt K nR, tabAt K nR), (codeAt K nT, tabAt K nT)]
theorem law_facts (w : World) (X : K.In h) (G : h.Ns mainGlobals mg) (c : obsK K = valK) : ∃ fd, FunL K "law" (top 92) (He.ga K "law") (codeAt K "law") fd ∧ ∀ base : Heap, K.In base → base.Ns mainGlobals mg → (∀ p ∈ csM K, TabB base mg p.1 p.2) → FnG PGM w K mg base 13 (He.ga K "law") fd ["_law_script"] (spLaw [(tabAt K nR, nmRun), (tabAt K nT, nmTab)] K) := by
  have cD : He.SaysD faM fnM K := congrArg (fun z : ObsM => z.1.1) c
  have cM : moreB K = true := congrArg (fun z : ObsM => z.1.2) c
  have cF : [fnAt K (gtAt K), fnAt K (bpI K)] = valK.2 := congrArg (fun z : ObsM => z.2) c
  have cG : fnAt K (gtAt K) = valK.2[0] := congrArg (fun z : List FnV2 => z.getD 0 none) cF
  have cB : fnAt K (bpI K) = valK.2[1] := congrArg (fun z : List FnV2 => z.getD 1 none) cF
  obtain ⟨y1, cM⟩ := PySem.BadX.ba cM
  obtain ⟨y2, cM⟩ := PySem.BadX.ba cM
  obtain ⟨y3, cM⟩ := PySem.BadX.ba cM
  obtain ⟨y4, cM⟩ := PySem.BadX.ba cM
  obtain ⟨y5, y6⟩ := PySem.BadX.ba cM
  have hne : tabAt K nR ≠ tabAt K nT := fun z => by rw [decide_eq_true z] at y6; cases y6
  have T := tx_of X G cD
  obtain ⟨fd_is_whole, Q_is_whole⟩ := cD.def_ 0 (d := hd_is_whole) rfl
  have F_is_whole : Fun K "is_whole" "is_whole" (top 20) (He.ga K "is_whole") fd_is_whole := fun_ofD Q_is_whole
  have m_is_whole : mg "is_whole" = some (.ref (He.ga K "is_whole")) := He.glo_ok X G (cD.fact 0 (f := .glo "is_whole") rfl)
  obtain ⟨fd_wrong_part, Q_wrong_part⟩ := cD.def_ 1 (d := hd_wrong_part) rfl
  have F_wrong_part : Fun K "wrong_part" "wrong_part" (top 21) (He.ga K "wrong_part") fd_wrong_part := fun_ofD Q_wrong_part
  have m_wrong_part : mg "wrong_part" = some (.ref (He.ga K "wrong_part")) := He.glo_ok X G (cD.fact 1 (f := .glo "wrong_part") rfl)
  obtain ⟨fd_need_well, Q_need_well⟩ := cD.def_ 2 (d := hd_need_well) rfl
  have F_need_well : Fun K "need_well" "need_well" (top 22) (He.ga K "need_well") fd_need_well := fun_ofD Q_need_well
  have m_need_well : mg "need_well" = some (.ref (He.ga K "need_well")) := He.glo_ok X G (cD.fact 2 (f := .glo "need_well") rfl)
  obtain ⟨fd_is_number, Q_is_number⟩ := cD.def_ 3 (d := hd_is_number) rfl
  have F_is_number : Fun K "is_number" "is_number" (top 23) (He.ga K "is_number") fd_is_number := fun_ofD Q_is_number
  have m_is_number : mg "is_number" = some (.ref (He.ga K "is_number")) := He.glo_ok X G (cD.fact 3 (f := .glo "is_number") rfl)
  obtain ⟨fd_need_number, Q_need_number⟩ := cD.def_ 4 (d := hd_need_number) rfl
  have F_need_number : Fun K "need_number" "need_number" (top 24) (He.ga K "need_number") fd_need_number := fun_ofD Q_need_number
  have m_need_number : mg "need_number" = some (.ref (He.ga K "need_number")) := He.glo_ok X G (cD.fact 4 (f := .glo "need_number") rfl)
  obtain ⟨fd_are_counts, Q_are_counts⟩ := cD.def_ 5 (d := hd_are_counts) rfl
  have F_are_counts : Fun K "are_counts" "are_counts" (top 25) (He.ga K "are_counts") fd_are_counts := fun_ofD Q_are_counts
  have m_are_counts : mg "are_counts" = some (.ref (He.ga K "are_counts")) := He.glo_ok X G (cD.fact 5 (f := .glo "are_counts") rfl)
  obtain ⟨fd_are_levels, Q_are_levels⟩ := cD.def_ 6 (d := hd_are_levels) rfl
  have F_are_levels : Fun K "are_levels" "are_levels" (top 26) (He.ga K "are_levels") fd_are_levels := fun_ofD Q_are_levels
  have m_are_levels : mg "are_levels" = some (.ref (He.ga K "are_levels")) := He.glo_ok X G (cD.fact 6 (f := .glo "are_levels") rfl)
  obtain ⟨fd_number_of, Q_number_of⟩ := cD.def_ 7 (d := hd_number_of) rfl
  have F_number_of : Fun K "number_of" "number_of" (top 28) (He.ga K "number_of") fd_number_of := fun_ofD Q_number_of
  have m_number_of : mg "number_of" = some (.ref (He.ga K "number_of")) := He.glo_ok X G (cD.fact 7 (f := .glo "number_of") rfl)
  obtain ⟨fd_is_state_of, Q_is_state_of⟩ := cD.def_ 8 (d := hd_is_state_of) rfl
  have F_is_state_of : Fun K "is_state_of" "is_state_of" (top 27) (He.ga K "is_state_of") fd_is_state_of := fun_ofD Q_is_state_of
  have m_is_state_of : mg "is_state_of" = some (.ref (He.ga K "is_state_of")) := He.glo_ok X G (cD.fact 8 (f := .glo "is_state_of") rfl)
  obtain ⟨fd_begun_with, Q_begun_with⟩ := cD.def_ 9 (d := hd_begun_with) rfl
  have F_begun_with : Fun K "begun_with" "begun_with" (top 29) (He.ga K "begun_with") fd_begun_with := fun_ofD Q_begun_with
  have m_begun_with : mg "begun_with" = some (.ref (He.ga K "begun_with")) := He.glo_ok X G (cD.fact 9 (f := .glo "begun_with") rfl)
  obtain ⟨fd_begun, Q_begun⟩ := cD.def_ 10 (d := hd_begun) rfl
  have F_begun : Fun K "begun" "begun" (top 30) (He.ga K "begun") fd_begun := fun_ofD Q_begun
  have m_begun : mg "begun" = some (.ref (He.ga K "begun")) := He.glo_ok X G (cD.fact 10 (f := .glo "begun") rfl)
  obtain ⟨fd_seen_of, Q_seen_of⟩ := cD.def_ 11 (d := hd_seen_of) rfl
  have F_seen_of : Fun K "seen_of" "seen_of" (top 31) (He.ga K "seen_of") fd_seen_of := fun_ofD Q_seen_of
  have m_seen_of : mg "seen_of" = some (.ref (He.ga K "seen_of")) := He.glo_ok X G (cD.fact 11 (f := .glo "seen_of") rfl)
  obtain ⟨fd_moves_of, Q_moves_of⟩ := cD.def_ 12 (d := hd_moves_of) rfl
  have F_moves_of : Fun K "moves_of" "moves_of" (top 32) (He.ga K "moves_of") fd_moves_of := fun_ofD Q_moves_of
  have m_moves_of : mg "moves_of" = some (.ref (He.ga K "moves_of")) := He.glo_ok X G (cD.fact 12 (f := .glo "moves_of") rfl)
  obtain ⟨fd_aged, Q_aged⟩ := cD.def_ 13 (d := hd_aged) rfl
  have F_aged : Fun K "aged" "aged" (top 33) (He.ga K "aged") fd_aged := fun_ofD Q_aged
  have m_aged : mg "aged" = some (.ref (He.ga K "aged")) := He.glo_ok X G (cD.fact 13 (f := .glo "aged") rfl)
  obtain ⟨fd_led_to, Q_led_to⟩ := cD.def_ 14 (d := hd_led_to) rfl
  have F_led_to : Fun K "led_to" "led_to" (top 34) (He.ga K "led_to") fd_led_to := fun_ofD Q_led_to
  have m_led_to : mg "led_to" = some (.ref (He.ga K "led_to")) := He.glo_ok X G (cD.fact 14 (f := .glo "led_to") rfl)
  obtain ⟨fd_after_in, Q_after_in⟩ := cD.def_ 15 (d := hd_after_in) rfl
  have F_after_in : Fun K "after_in" "after_in" (top 35) (He.ga K "after_in") fd_after_in := fun_ofD Q_after_in
  have m_after_in : mg "after_in" = some (.ref (He.ga K "after_in")) := He.glo_ok X G (cD.fact 15 (f := .glo "after_in") rfl)
  obtain ⟨fd_is_inflow, Q_is_inflow⟩ := cD.def_ 16 (d := hd_is_inflow) rfl
  have F_is_inflow : Fun K "is_inflow" "is_inflow" (top 36) (He.ga K "is_inflow") fd_is_inflow := fun_ofD Q_is_inflow
  have m_is_inflow : mg "is_inflow" = some (.ref (He.ga K "is_inflow")) := He.glo_ok X G (cD.fact 16 (f := .glo "is_inflow") rfl)
  obtain ⟨fd_need_state, Q_need_state⟩ := cD.def_ 17 (d := hd_need_state) rfl
  have F_need_state : Fun K "need_state" "need_state" (top 37) (He.ga K "need_state") fd_need_state := fun_ofD Q_need_state
  have m_need_state : mg "need_state" = some (.ref (He.ga K "need_state")) := He.glo_ok X G (cD.fact 17 (f := .glo "need_state") rfl)
  obtain ⟨fd_after, Q_after⟩ := cD.def_ 18 (d := hd_after) rfl
  have F_after : Fun K "after" "after" (top 38) (He.ga K "after") fd_after := fun_ofD Q_after
  have m_after : mg "after" = some (.ref (He.ga K "after")) := He.glo_ok X G (cD.fact 18 (f := .glo "after") rfl)
  obtain ⟨fd_is_range, Q_is_range⟩ := cD.def_ 19 (d := hd_is_range) rfl
  have F_is_range : Fun K "is_range" "is_range" (top 43) (He.ga K "is_range") fd_is_range := fun_ofD Q_is_range
  have m_is_range : mg "is_range" = some (.ref (He.ga K "is_range")) := He.glo_ok X G (cD.fact 19 (f := .glo "is_range") rfl)
  obtain ⟨fd_need_claim, Q_need_claim⟩ := cD.def_ 20 (d := hd_need_claim) rfl
  have F_need_claim : Fun K "need_claim" "need_claim" (top 44) (He.ga K "need_claim") fd_need_claim := fun_ofD Q_need_claim
  have m_need_claim : mg "need_claim" = some (.ref (He.ga K "need_claim")) := He.glo_ok X G (cD.fact 20 (f := .glo "need_claim") rfl)
  obtain ⟨fd_beats_of, Q_beats_of⟩ := cD.def_ 21 (d := hd_beats_of) rfl
  have F_beats_of : Fun K "beats_of" "beats_of" (top 45) (He.ga K "beats_of") fd_beats_of := fun_ofD Q_beats_of
  have m_beats_of : mg "beats_of" = some (.ref (He.ga K "beats_of")) := He.glo_ok X G (cD.fact 21 (f := .glo "beats_of") rfl)
  obtain ⟨fd_begun_states, Q_begun_states⟩ := cD.def_ 22 (d := hd_begun_states) rfl
  have F_begun_states : Fun K "begun_states" "begun_states" (top 46) (He.ga K "begun_states") fd_begun_states := fun_ofD Q_begun_states
  have m_begun_states : mg "begun_states" = some (.ref (He.ga K "begun_states")) := He.glo_ok X G (cD.fact 22 (f := .glo "begun_states") rfl)
  obtain ⟨fd_is_run, Q_is_run⟩ := cD.def_ 23 (d := hd_is_run) rfl
  have F_is_run : Fun K "is_run" "is_run" (top 53) (He.ga K "is_run") fd_is_run := fun_ofD Q_is_run
  have m_is_run : mg "is_run" = some (.ref (He.ga K "is_run")) := He.glo_ok X G (cD.fact 23 (f := .glo "is_run") rfl)
  obtain ⟨fd_searched, Q_searched⟩ := cD.def_ 24 (d := hd_searched) rfl
  have F_searched : Fun K "searched" "searched" (top 48) (He.ga K "searched") fd_searched := fun_ofD Q_searched
  have m_searched : mg "searched" = some (.ref (He.ga K "searched")) := He.glo_ok X G (cD.fact 24 (f := .glo "searched") rfl)
  obtain ⟨fd_verdict, Q_verdict⟩ := cD.def_ 25 (d := hd_verdict) rfl
  have F_verdict : Fun K "verdict" "verdict" (top 49) (He.ga K "verdict") fd_verdict := fun_ofD Q_verdict
  have m_verdict : mg "verdict" = some (.ref (He.ga K "verdict")) := He.glo_ok X G (cD.fact 25 (f := .glo "verdict") rfl)
  obtain ⟨fd_states, Q_states⟩ := cD.def_ 26 (d := hd_states) rfl
  have F_states : Fun K "states" "states" (top 50) (He.ga K "states") fd_states := fun_ofD Q_states
  have m_states : mg "states" = some (.ref (He.ga K "states")) := He.glo_ok X G (cD.fact 26 (f := .glo "states") rfl)
  obtain ⟨fd_cut_of, Q_cut_of⟩ := cD.def_ 27 (d := hd_cut_of) rfl
  have F_cut_of : Fun K "cut_of" "cut_of" (top 57) (He.ga K "cut_of") fd_cut_of := fun_ofD Q_cut_of
  have m_cut_of : mg "cut_of" = some (.ref (He.ga K "cut_of")) := He.glo_ok X G (cD.fact 27 (f := .glo "cut_of") rfl)
  obtain ⟨fd_cut, Q_cut⟩ := cD.def_ 28 (d := hd_cut) rfl
  have F_cut : Fun K "cut" "cut" (top 58) (He.ga K "cut") fd_cut := fun_ofD Q_cut
  have m_cut : mg "cut" = some (.ref (He.ga K "cut")) := He.glo_ok X G (cD.fact 28 (f := .glo "cut") rfl)
  obtain ⟨fd_safety_paper, Q_safety_paper⟩ := cD.def_ 29 (d := hd_safety_paper) rfl
  have F_safety_paper : Fun K "safety_paper" "safety_paper" (top 52) (He.ga K "safety_paper") fd_safety_paper := fun_ofD Q_safety_paper
  have m_safety_paper : mg "safety_paper" = some (.ref (He.ga K "safety_paper")) := He.glo_ok X G (cD.fact 29 (f := .glo "safety_paper") rfl)
  obtain ⟨fd_is_table, Q_is_table⟩ := cD.def_ 30 (d := hd_is_table) rfl
  have F_is_table : Fun K "is_table" "is_table" (top 54) (He.ga K "is_table") fd_is_table := fun_ofD Q_is_table
  have m_is_table : mg "is_table" = some (.ref (He.ga K "is_table")) := He.glo_ok X G (cD.fact 30 (f := .glo "is_table") rfl)
  obtain ⟨fd_check_safety, Q_check_safety⟩ := cD.def_ 31 (d := hd_check_safety) rfl
  have F_check_safety : Fun K "check_safety" "check_safety" (top 55) (He.ga K "check_safety") fd_check_safety := fun_ofD Q_check_safety
  have m_check_safety : mg "check_safety" = some (.ref (He.ga K "check_safety")) := He.glo_ok X G (cD.fact 31 (f := .glo "check_safety") rfl)
  obtain ⟨fd_integer_of, Q_integer_of⟩ := cD.def_ 32 (d := hd_integer_of) rfl
  have F_integer_of : Fun K "integer_of" "integer_of" (top 68) (He.ga K "integer_of") fd_integer_of := fun_ofD Q_integer_of
  have m_integer_of : mg "integer_of" = some (.ref (He.ga K "integer_of")) := He.glo_ok X G (cD.fact 32 (f := .glo "integer_of") rfl)
  obtain ⟨fd_claim_text, Q_claim_text⟩ := cD.def_ 33 (d := hd_claim_text) rfl
  have F_claim_text : Fun K "claim_text" "claim_text" (top 69) (He.ga K "claim_text") fd_claim_text := fun_ofD Q_claim_text
  have m_claim_text : mg "claim_text" = some (.ref (He.ga K "claim_text")) := He.glo_ok X G (cD.fact 33 (f := .glo "claim_text") rfl)
  obtain ⟨fd_is_line_right, Q_is_line_right⟩ := cD.def_ 34 (d := hd_is_line_right) rfl
  have F_is_line_right : Fun K "is_line_right" "is_line_right" (top 70) (He.ga K "is_line_right") fd_is_line_right := fun_ofD Q_is_line_right
  have m_is_line_right : mg "is_line_right" = some (.ref (He.ga K "is_line_right")) := He.glo_ok X G (cD.fact 34 (f := .glo "is_line_right") rfl)
  obtain ⟨fd_row_told, Q_row_told⟩ := cD.def_ 35 (d := hd_row_told) rfl
  have F_row_told : Fun K "row_told" "row_told" (top 78) (He.ga K "row_told") fd_row_told := fun_ofD Q_row_told
  have m_row_told : mg "row_told" = some (.ref (He.ga K "row_told")) := He.glo_ok X G (cD.fact 35 (f := .glo "row_told") rfl)
  obtain ⟨fd_read_claim, Q_read_claim⟩ := cD.def_ 36 (d := hd_read_claim) rfl
  have F_read_claim : Fun K "read_claim" "read_claim" (top 71) (He.ga K "read_claim") fd_read_claim := fun_ofD Q_read_claim
  have m_read_claim : mg "read_claim" = some (.ref (He.ga K "read_claim")) := He.glo_ok X G (cD.fact 36 (f := .glo "read_claim") rfl)
  obtain ⟨fd__law_start, Q__law_start⟩ := cD.def_ 37 (d := hd__law_start) rfl
  have F__law_start : Fun K "_law_start" "_law_start" (top 81) (He.ga K "_law_start") fd__law_start := fun_ofD Q__law_start
  have m__law_start : mg "_law_start" = some (.ref (He.ga K "_law_start")) := He.glo_ok X G (cD.fact 37 (f := .glo "_law_start") rfl)
  obtain ⟨fd__law_next, Q__law_next⟩ := cD.def_ 38 (d := hd__law_next) rfl
  have F__law_next : Fun K "_law_next" "_law_next" (top 82) (He.ga K "_law_next") fd__law_next := fun_ofD Q__law_next
  have m__law_next : mg "_law_next" = some (.ref (He.ga K "_law_next")) := He.glo_ok X G (cD.fact 38 (f := .glo "_law_next") rfl)
  obtain ⟨fd__law_small, Q__law_small⟩ := cD.def_ 39 (d := hd__law_small) rfl
  have F__law_small : Fun K "_law_small" "_law_small" (top 83) (He.ga K "_law_small") fd__law_small := fun_ofD Q__law_small
  have m__law_small : mg "_law_small" = some (.ref (He.ga K "_law_small")) := He.glo_ok X G (cD.fact 39 (f := .glo "_law_small") rfl)
  obtain ⟨fd__law_beat, Q__law_beat⟩ := cD.def_ 40 (d := hd__law_beat) rfl
  have F__law_beat : Fun K "_law_beat" "_law_beat" (top 84) (He.ga K "_law_beat") fd__law_beat := fun_ofD Q__law_beat
  have m__law_beat : mg "_law_beat" = some (.ref (He.ga K "_law_beat")) := He.glo_ok X G (cD.fact 40 (f := .glo "_law_beat") rfl)
  obtain ⟨fd__law_first, Q__law_first⟩ := cD.def_ 41 (d := hd__law_first) rfl
  have F__law_first : Fun K "_law_first" "_law_first" (top 85) (He.ga K "_law_first") fd__law_first := fun_ofD Q__law_first
  have m__law_first : mg "_law_first" = some (.ref (He.ga K "_law_first")) := He.glo_ok X G (cD.fact 41 (f := .glo "_law_first") rfl)
  obtain ⟨fd__law_shortest, Q__law_shortest⟩ := cD.def_ 42 (d := hd__law_shortest) rfl
  have F__law_shortest : Fun K "_law_shortest" "_law_shortest" (top 86) (He.ga K "_law_shortest") fd__law_shortest := fun_ofD Q__law_shortest
  have m__law_shortest : mg "_law_shortest" = some (.ref (He.ga K "_law_shortest")) := He.glo_ok X G (cD.fact 42 (f := .glo "_law_shortest") rfl)
  obtain ⟨fd__law_is_refused, Q__law_is_refused⟩ := cD.def_ 43 (d := hd__law_is_refused) rfl
  have F__law_is_refused : Fun K "_law_is_refused" "_law_is_refused" (top 87) (He.ga K "_law_is_refused") fd__law_is_refused := fun_ofD Q__law_is_refused
  have m__law_is_refused : mg "_law_is_refused" = some (.ref (He.ga K "_law_is_refused")) := He.glo_ok X G (cD.fact 43 (f := .glo "_law_is_refused") rfl)
  obtain ⟨fd__law_led, Q__law_led⟩ := cD.def_ 44 (d := hd__law_led) rfl
  have F__law_led : Fun K "_law_led" "_law_led" (top 88) (He.ga K "_law_led") fd__law_led := fun_ofD Q__law_led
  have m__law_led : mg "_law_led" = some (.ref (He.ga K "_law_led")) := He.glo_ok X G (cD.fact 44 (f := .glo "_law_led") rfl)
  obtain ⟨fd__law_run_right, Q__law_run_right⟩ := cD.def_ 45 (d := hd__law_run_right) rfl
  have F__law_run_right : Fun K "_law_run_right" "_law_run_right" (top 89) (He.ga K "_law_run_right") fd__law_run_right := fun_ofD Q__law_run_right
  have m__law_run_right : mg "_law_run_right" = some (.ref (He.ga K "_law_run_right")) := He.glo_ok X G (cD.fact 45 (f := .glo "_law_run_right") rfl)
  obtain ⟨fd__law_table_right, Q__law_table_right⟩ := cD.def_ 46 (d := hd__law_table_right) rfl
  have F__law_table_right : Fun K "_law_table_right" "_law_table_right" (top 90) (He.ga K "_law_table_right") fd__law_table_right := fun_ofD Q__law_table_right
  have m__law_table_right : mg "_law_table_right" = some (.ref (He.ga K "_law_table_right")) := He.glo_ok X G (cD.fact 46 (f := .glo "_law_table_right") rfl)
  obtain ⟨fd__law_right, Q__law_right⟩ := cD.def_ 47 (d := hd__law_right) rfl
  have F__law_right : Fun K "_law_right" "_law_right" (top 91) (He.ga K "_law_right") fd__law_right := fun_ofD Q__law_right
  have m__law_right : mg "_law_right" = some (.ref (He.ga K "_law_right")) := He.glo_ok X G (cD.fact 47 (f := .glo "_law_right") rfl)
  obtain ⟨fd_law, Q_law⟩ := cD.def_ 48 (d := hd_law) rfl
  have F_law : Fun K "law" "law" (top 92) (He.ga K "law") fd_law := fun_ofD Q_law
  have m_law : mg "law" = some (.ref (He.ga K "law")) := He.glo_ok X G (cD.fact 48 (f := .glo "law") rfl)
  obtain ⟨fd_Search_run_to, Q_Search_run_to⟩ := cD.def_ 49 (d := hd_Search_run_to) rfl
  have F_Search_run_to : Fun K "run_to" "Search.run_to" (inClass (top 47) 2) (He.ma K (He.ga K "Search") "run_to") fd_Search_run_to := fun_ofD Q_Search_run_to
  have m_Search_run_to : Meth K (He.ga K "Search") "run_to" (He.ma K (He.ga K "Search") "run_to") := He.meth_ok (cD.fact 103 (f := .meth "Search" "run_to") rfl)
  have b_Search_run_to : L2.Binds K fd_Search_run_to ["self", "state"] [] := (F_Search_run_to.binds (fun _ _ _ _ _ _ us hl => match us, hl with | [_, _], _ => rfl))
  obtain ⟨fd_Search_behind, Q_Search_behind⟩ := cD.def_ 50 (d := hd_Search_behind) rfl
  have F_Search_behind : Fun K "behind" "Search.behind" (inClass (top 47) 1) (He.ma K (He.ga K "Search") "behind") fd_Search_behind := fun_ofD Q_Search_behind
  have m_Search_behind : Meth K (He.ga K "Search") "behind" (He.ma K (He.ga K "Search") "behind") := He.meth_ok (cD.fact 104 (f := .meth "Search" "behind") rfl)
  have b_Search_behind : L2.Binds K fd_Search_behind ["self", "claim", "state"] [] := (F_Search_behind.binds (fun _ _ _ _ _ _ us hl => match us, hl with | [_, _, _], _ => rfl))
  obtain ⟨fd_Search___init__, Q_Search___init__⟩ := cD.def_ 51 (d := hd_Search___init__) rfl
  have F_Search___init__ : Fun K "__init__" "Search.__init__" (inClass (top 47) 0) (He.ma K (He.ga K "Search") "__init__") fd_Search___init__ := fun_ofD Q_Search___init__
  have m_Search___init__ : Mk K (He.ga K "Search") (He.ma K (He.ga K "Search") "__init__") := He.mkr_ok (cD.fact 96 (f := .mkr "Search") rfl)
  have b_Search___init__ : L2.Binds K fd_Search___init__ ["self", "claim", "number"] [] := (F_Search___init__.binds (fun _ _ _ _ _ _ us hl => match us, hl with | [_, _, _], _ => rfl))
  obtain ⟨fd_Search_word, Q_Search_word⟩ := cD.def_ 52 (d := hd_Search_word) rfl
  have F_Search_word : Fun K "word" "Search.word" (inClass (top 47) 3) (He.ma K (He.ga K "Search") "word") fd_Search_word := fun_ofD Q_Search_word
  have m_Search_word : Meth K (He.ga K "Search") "word" (He.ma K (He.ga K "Search") "word") := He.meth_ok (cD.fact 105 (f := .meth "Search" "word") rfl)
  have b_Search_word : L2.Binds K fd_Search_word ["self"] [] := (F_Search_word.binds (fun _ _ _ _ _ _ us hl => match us, hl with | [_], _ => rfl))
  obtain ⟨fd_Desk___init__, Q_Desk___init__⟩ := cD.def_ 53 (d := hd_Desk___init__) rfl
  have F_Desk___init__ : Fun K "__init__" "Desk.__init__" (inClass (top 79) 0) (He.ma K (He.ga K "Desk") "__init__") fd_Desk___init__ := fun_ofD Q_Desk___init__
  have m_Desk___init__ : Mk K (He.ga K "Desk") (He.ma K (He.ga K "Desk") "__init__") := He.mkr_ok (cD.fact 97 (f := .mkr "Desk") rfl)
  have b_Desk___init__ : L2.Binds K fd_Desk___init__ ["self"] [] := (F_Desk___init__.binds (fun _ _ _ _ _ _ us hl => match us, hl with | [_], _ => rfl))
  obtain ⟨fd_Desk_take_well, Q_Desk_take_well⟩ := cD.def_ 54 (d := hd_Desk_take_well) rfl
  have F_Desk_take_well : Fun K "take_well" "Desk.take_well" (inClass (top 79) 3) (He.ma K (He.ga K "Desk") "take_well") fd_Desk_take_well := fun_ofD Q_Desk_take_well
  have m_Desk_take_well : Meth K (He.ga K "Desk") "take_well" (He.ma K (He.ga K "Desk") "take_well") := He.meth_ok (cD.fact 106 (f := .meth "Desk" "take_well") rfl)
  have b_Desk_take_well : L2.Binds K fd_Desk_take_well ["self", "numbers"] [] := (F_Desk_take_well.binds (fun _ _ _ _ _ _ us hl => match us, hl with | [_, _], _ => rfl))
  obtain ⟨fd_Desk_change, Q_Desk_change⟩ := cD.def_ 55 (d := hd_Desk_change) rfl
  have F_Desk_change : Fun K "change" "Desk.change" (inClass (top 79) 4) (He.ma K (He.ga K "Desk") "change") fd_Desk_change := fun_ofD Q_Desk_change
  have m_Desk_change : Meth K (He.ga K "Desk") "change" (He.ma K (He.ga K "Desk") "change") := He.meth_ok (cD.fact 107 (f := .meth "Desk" "change") rfl)
  have b_Desk_change : L2.Binds K fd_Desk_change ["self", "place", "numbers"] [] := (F_Desk_change.binds (fun _ _ _ _ _ _ us hl => match us, hl with | [_, _, _], _ => rfl))
  obtain ⟨fd_Desk_beat, Q_Desk_beat⟩ := cD.def_ 56 (d := hd_Desk_beat) rfl
  have F_Desk_beat : Fun K "beat" "Desk.beat" (inClass (top 79) 7) (He.ma K (He.ga K "Desk") "beat") fd_Desk_beat := fun_ofD Q_Desk_beat
  have m_Desk_beat : Meth K (He.ga K "Desk") "beat" (He.ma K (He.ga K "Desk") "beat") := He.meth_ok (cD.fact 108 (f := .meth "Desk" "beat") rfl)
  have b_Desk_beat : L2.Binds K fd_Desk_beat ["self", "inflow"] [] := (F_Desk_beat.binds (fun _ _ _ _ _ _ us hl => match us, hl with | [_, _], _ => rfl))
  obtain ⟨fd_Desk_counted, Q_Desk_counted⟩ := cD.def_ 57 (d := hd_Desk_counted) rfl
  have F_Desk_counted : Fun K "counted" "Desk.counted" (inClass (top 79) 8) (He.ma K (He.ga K "Desk") "counted") fd_Desk_counted := fun_ofD Q_Desk_counted
  have m_Desk_counted : Meth K (He.ga K "Desk") "counted" (He.ma K (He.ga K "Desk") "counted") := He.meth_ok (cD.fact 109 (f := .meth "Desk" "counted") rfl)
  have b_Desk_counted : L2.Binds K fd_Desk_counted ["self", "word", "number", "rest"] [] := (F_Desk_counted.binds (fun _ _ _ _ _ _ us hl => match us, hl with | [_, _, _, _], _ => rfl))
  obtain ⟨fd_Desk_with_words, Q_Desk_with_words⟩ := cD.def_ 58 (d := hd_Desk_with_words) rfl
  have F_Desk_with_words : Fun K "with_words" "Desk.with_words" (inClass (top 79) 9) (He.ma K (He.ga K "Desk") "with_words") fd_Desk_with_words := fun_ofD Q_Desk_with_words
  have m_Desk_with_words : Meth K (He.ga K "Desk") "with_words" (He.ma K (He.ga K "Desk") "with_words") := He.meth_ok (cD.fact 110 (f := .meth "Desk" "with_words") rfl)
  have b_Desk_with_words : L2.Binds K fd_Desk_with_words ["self", "word", "rest"] [] := (F_Desk_with_words.binds (fun _ _ _ _ _ _ us hl => match us, hl with | [_, _, _], _ => rfl))
  obtain ⟨fd_Desk_answered, Q_Desk_answered⟩ := cD.def_ 59 (d := hd_Desk_answered) rfl
  have F_Desk_answered : Fun K "answered" "Desk.answered" (inClass (top 79) 10) (He.ma K (He.ga K "Desk") "answered") fd_Desk_answered := fun_ofD Q_Desk_answered
  have m_Desk_answered : Meth K (He.ga K "Desk") "answered" (He.ma K (He.ga K "Desk") "answered") := He.meth_ok (cD.fact 111 (f := .meth "Desk" "answered") rfl)
  have b_Desk_answered : L2.Binds K fd_Desk_answered ["self", "line"] [] := (F_Desk_answered.binds (fun _ _ _ _ _ _ us hl => match us, hl with | [_, _], _ => rfl))
  obtain ⟨fd_Desk_say, Q_Desk_say⟩ := cD.def_ 60 (d := hd_Desk_say) rfl
  have F_Desk_say : Fun K "say" "Desk.say" (inClass (top 79) 11) (He.ma K (He.ga K "Desk") "say") fd_Desk_say := fun_ofD Q_Desk_say
  have m_Desk_say : Meth K (He.ga K "Desk") "say" (He.ma K (He.ga K "Desk") "say") := He.meth_ok (cD.fact 112 (f := .meth "Desk" "say") rfl)
  have b_Desk_say : L2.Binds K fd_Desk_say ["self", "line"] [] := (F_Desk_say.binds (fun _ _ _ _ _ _ us hl => match us, hl with | [_, _], _ => rfl))
  have Z : TSe K mg (He.ga K "Search") := ⟨He.cls_ok (cD.fact 94 (f := .cls "Search") rfl), He.noat_ok (cD.fact 98 (f := .noat "Search" "known") rfl), He.noat_ok (cD.fact 99 (f := .noat "Search" "runs") rfl), He.noat_ok (cD.fact 100 (f := .noat "Search" "busy") rfl), He.glo_ok X G (cD.fact 49 (f := .glo "Search") rfl)⟩
  have Y : TDk K mg (He.ga K "Desk") := ⟨He.cls_ok (cD.fact 95 (f := .cls "Desk") rfl), He.noat_ok (cD.fact 101 (f := .noat "Desk" "own_claim") rfl), He.noat_ok (cD.fact 102 (f := .noat "Desk" "own_state") rfl), He.glo_ok X G (cD.fact 50 (f := .glo "Desk") rfl)⟩
  have BT : PySem.BadX.BadTxt PGM K mg (bpC K) (bpI K) := PySem.BadX.bad_ok (He.glo_ok X G (cD.fact 51 (f := .glo "BadPaper") rfl)) T.b_super y3 (by decide +kernel) cB
  obtain ⟨fd_claim, F_claim⟩ := fnB_ok (x := "claim") (st := inClass (top 79) 1) cG y2
  have b_claim : L2.Binds K fd_claim ["self"] [] := F_claim.binds (fun _ _ _ _ _ _ us hl => match us, hl with | [_], _ => rfl)
  have PR := prB_ok y1
  refine ⟨fd_law, funL_of F_law, fun base hb hG hTB => ?_⟩
  have D_is_whole : FnD PGM w K mg base 1 "is_whole" g_is_whole := fn_is_whole F_is_whole T m_is_whole 
  have D_wrong_part : FnD PGM w K mg base 2 "wrong_part" g_wrong_part := fn_wrong_part F_wrong_part T m_wrong_part D_is_whole
  have D_need_well : FnD PGM w K mg base 3 "need_well" g_need_well := fn_need_well F_need_well T m_need_well D_wrong_part
  have D_is_number : FnD PGM w K mg base 2 "is_number" g_is_number := fn_is_number F_is_number T m_is_number D_is_whole
  have D_need_number : FnD PGM w K mg base 3 "need_number" g_need_number := fn_need_number F_need_number T m_need_number D_is_number
  have D_are_counts : FnD PGM w K mg base 2 "are_counts" g_are_counts := fn_are_counts F_are_counts T m_are_counts D_is_whole
  have D_are_levels : FnD PGM w K mg base 2 "are_levels" g_are_levels := fn_are_levels F_are_levels T m_are_levels D_is_whole
  have D_number_of : FnD PGM w K mg base 1 "number_of" g_number_of := fn_number_of F_number_of T m_number_of 
  have D_is_state_of : FnD PGM w K mg base 3 "is_state_of" g_is_state_of := fn_is_state_of F_is_state_of T m_is_state_of D_is_whole D_are_levels D_are_counts D_number_of
  have D_begun_with : FnD PGM w K mg base 1 "begun_with" g_begun_with := fn_begun_with F_begun_with T m_begun_with 
  have D_begun : FnD PGM w K mg base 4 "begun" g_begun := fn_begun F_begun T m_begun D_need_well D_need_number D_is_whole D_begun_with
  have D_seen_of : FnD PGM w K mg base 1 "seen_of" g_seen_of := fn_seen_of F_seen_of T m_seen_of 
  have D_moves_of : FnD PGM w K mg base 2 "moves_of" g_moves_of := fn_moves_of F_moves_of T m_moves_of D_seen_of
  have D_aged : FnD PGM w K mg base 1 "aged" g_aged := fn_aged F_aged T m_aged 
  have D_led_to : FnD PGM w K mg base 2 "led_to" g_led_to := fn_led_to F_led_to T m_led_to D_aged
  have D_after_in : FnD PGM w K mg base 3 "after_in" g_after_in := fn_after_in F_after_in T m_after_in D_moves_of D_led_to
  have D_is_inflow : FnD PGM w K mg base 2 "is_inflow" g_is_inflow := fn_is_inflow F_is_inflow T m_is_inflow D_is_whole
  have D_need_state : FnD PGM w K mg base 4 "need_state" g_need_state := fn_need_state F_need_state T m_need_state D_need_well D_is_state_of
  have D_after : FnD PGM w K mg base 5 "after" g_after := fn_after F_after T m_after D_need_state D_is_inflow D_after_in
  have D_is_range : FnD PGM w K mg base 2 "is_range" g_is_range := fn_is_range F_is_range T m_is_range D_is_whole
  have D_need_claim : FnD PGM w K mg base 3 "need_claim" g_need_claim := fn_need_claim F_need_claim T m_need_claim D_wrong_part D_is_range
  have D_beats_of : FnD PGM w K mg base 3 "beats_of" g_beats_of := fn_beats_of F_beats_of T m_beats_of D_moves_of D_led_to
  have D_begun_states : FnD PGM w K mg base 2 "begun_states" g_begun_states := fn_begun_states F_begun_states T m_begun_states D_begun_with
  have D_is_run : FnD PGM w K mg base 4 "is_run" g_is_run := fn_is_run F_is_run T m_is_run D_is_whole D_begun_with D_after_in
  have D_integer_of : FnD PGM w K mg base 1 "integer_of" g_integer_of := fn_integer_of F_integer_of T m_integer_of 
  have D_claim_text : FnD PGM w K mg base 4 "claim_text" g_claim_text := fn_claim_text F_claim_text T m_claim_text D_need_claim
  have D_is_line_right : FnD PGM w K mg base 3 "is_line_right" g_is_line_right := fn_is_line_right F_is_line_right T m_is_line_right D_wrong_part D_is_range
  have D_row_told : FnD PGM w K mg base 1 "row_told" g_row_told := fn_row_told F_row_told T m_row_told 
  have D_read_claim : FnD PGM w K mg base 4 "read_claim" g_read_claim := fn_read_claim F_read_claim T m_read_claim D_integer_of D_is_line_right
  have D__law_beat : FnD PGM w K mg base 1 "_law_beat" g_law_beat := fn_law_beat F__law_beat T m__law_beat 
  have D__law_first : FnD PGM w K mg base 1 "_law_first" g_law_first := fn_law_first F__law_first T m__law_first 
  have G_run_to := ok_run_to (P := PGM) (w := w) (base := base) F_Search_run_to Z
  have G_behind := ok_behind F_Search_behind T Z D_beats_of m_Search_run_to G_run_to b_Search_run_to
  have G_sinit := ok_sinit F_Search___init__ T Z D_begun_states m_Search_behind G_behind b_Search_behind
  have X_searched : FnX PGM w K mg base 7 "searched" ["claim", "number"] (spSearched PGM w (He.ga K "Search") K) := ⟨⟨_, _, m_searched, F_searched.kp, (F_searched.binds (fun _ _ _ _ _ _ us hl => match us, hl with | [_, _], _ => rfl)), ok_searched F_searched Z D_need_claim D_need_number m_Search___init__ G_sinit b_Search___init__⟩⟩
  have G_word := ok_word (P := PGM) (w := w) (base := base) F_Search_word T Z
  have D_verdict : FnD PGM w K mg base 8 "verdict" g_verdict := fnD_mk (ps := ["claim", "number"]) F_verdict m_verdict (F_verdict.binds (fun _ _ _ _ _ _ us hl => match us, hl with | [_, _], _ => rfl)) (ok_verdict F_verdict Z X_searched m_Search_word G_word b_Search_word)
  have D_states : FnD PGM w K mg base 8 "states" g_states := fnD_mk (ps := ["claim", "number"]) F_states m_states (F_states.binds (fun _ _ _ _ _ _ us hl => match us, hl with | [_, _], _ => rfl)) (ok_states F_states T Z X_searched)
  have D_cut_of : FnD PGM w K mg base 7 "cut_of" g_cut_of := fnD_mk (ps := ["claim"]) F_cut_of m_cut_of (F_cut_of.binds (fun _ _ _ _ _ _ us hl => match us, hl with | [_], _ => rfl)) (ok_cut_of F_cut_of T Z m_Search___init__ G_sinit b_Search___init__)
  have D_cut : FnD PGM w K mg base 8 "cut" g_cut := fnD_mk (ps := ["claim"]) F_cut m_cut (F_cut.binds (fun _ _ _ _ _ _ us hl => match us, hl with | [_], _ => rfl)) (ok_cut F_cut D_need_claim D_cut_of)
  have D_safety_paper : FnD PGM w K mg base 8 "safety_paper" g_safety_paper := fnD_mk (ps := ["claim", "number"]) F_safety_paper m_safety_paper (F_safety_paper.binds (fun _ _ _ _ _ _ us hl => match us, hl with | [_, _], _ => rfl)) (ok_safety_paper F_safety_paper T Z X_searched)
  have D_is_table : FnD PGM w K mg base 4 "is_table" g_is_table := fnD_mk (ps := ["claim", "number", "thing"]) F_is_table m_is_table (F_is_table.binds (fun _ _ _ _ _ _ us hl => match us, hl with | [_, _, _], _ => rfl)) (ok_is_table F_is_table T D_is_state_of D_number_of D_begun_states D_beats_of)
  have D_check_safety : FnD PGM w K mg base 5 "check_safety" g_check_safety := fnD_mk (ps := ["claim", "number", "paper"]) F_check_safety m_check_safety (F_check_safety.binds (fun _ _ _ _ _ _ us hl => match us, hl with | [_, _, _], _ => rfl)) (ok_check_safety0 F_check_safety T D_need_claim D_need_number D_is_table D_is_run)
  have G_check := ok_check_safetyX F_check_safety T BT D_need_claim D_need_number D_is_table D_is_run
  have G_dinit := ok_dinit (P := PGM) (w := w) (base := base) F_Desk___init__ Y
  have G_dclaim := ok_dclaim (P := PGM) (w := w) (base := base) F_claim Y
  have G_take := ok_take F_Desk_take_well T Y D_need_well
  have G_change := ok_change F_Desk_change T Y D_need_claim
  have G_beat := ok_beat F_Desk_beat T Y D_after D_row_told
  have G_counted := ok_counted F_Desk_counted T Y D_begun D_integer_of
  have G_ww := ok_with_words F_Desk_with_words T Y D_integer_of m_Desk_counted G_counted b_Desk_counted m_Desk_change G_change b_Desk_change m_Desk_beat G_beat b_Desk_beat
  have G_answered := ok_answered F_Desk_answered T Y D_integer_of m_Desk_take_well G_take b_Desk_take_well m_Desk_with_words G_ww b_Desk_with_words
  have G_say := ok_say F_Desk_say T Y m_Desk_answered G_answered b_Desk_answered
  have X__law_next : FnX PGM w K mg base 1 "_law_next" ["_law_m", "_law_total"] (spNext K) := ⟨⟨_, _, m__law_next, F__law_next.kp, (F__law_next.binds (fun _ _ _ _ _ _ us hl => match us, hl with | [_, _], _ => rfl)), ok_next F__law_next T⟩⟩
  have X__law_start : FnX PGM w K mg base 1 "_law_start" ["_law_script"] (spStart K) := ⟨⟨_, _, m__law_start, F__law_start.kp, (F__law_start.binds (fun _ _ _ _ _ _ us hl => match us, hl with | [_], _ => rfl)), ok_start F__law_start T⟩⟩
  have X__law_small : FnX PGM w K mg base 2 "_law_small" ["_law_m"] (spSmall K) := ⟨⟨_, _, m__law_small, F__law_small.kp, (F__law_small.binds (fun _ _ _ _ _ _ us hl => match us, hl with | [_], _ => rfl)), ok_small F__law_small T X__law_next⟩⟩
  have X__law_shortest : FnX PGM w K mg base 2 "_law_shortest" ["_law_claim_so", "_law_number_so"] (spShort K) := ⟨⟨_, _, m__law_shortest, F__law_shortest.kp, (F__law_shortest.binds (fun _ _ _ _ _ _ us hl => match us, hl with | [_, _], _ => rfl)), ok_shortest F__law_shortest T D__law_first D__law_beat⟩⟩
  have X__law_led : FnX PGM w K mg base 10 "_law_led" ["_law_desk", "_law_claim_so", "_law_number_so", "_law_run_so", "_law_word"] (spLed (He.ga K "Desk") K) := ⟨⟨_, _, m__law_led, F__law_led.kp, (F__law_led.binds (fun _ _ _ _ _ _ us hl => match us, hl with | [_, _, _, _, _], _ => rfl)), ok_led F__law_led T Y D_claim_text m_Desk_say G_say b_Desk_say PR G_dclaim b_claim⟩⟩
  have R : DRef PGM w K mg base (bpC K) (bpI K) := ⟨BT, ⟨_, _, F__law_is_refused, m__law_is_refused⟩, ⟨_, _, m_check_safety, F_check_safety.kp, (F_check_safety.binds (fun _ _ _ _ _ _ us hl => match us, hl with | [_, _, _], _ => rfl)), G_check⟩⟩
  have TB1 := hTB (codeAt K nR, tabAt K nR) (by simp)
  have TB2 := hTB (codeAt K nT, tabAt K nT) (by simp)
  have hu1 : ∀ p ∈ ([(tabAt K nR, nmRun), (tabAt K nT, nmTab)] : List (Addr × Str)), p.1 = tabAt K nR → p.2 = nmRun := fun p hp e => by
    rcases List.mem_cons.mp hp with z | z
    · rw [z]
    · rw [List.mem_singleton.mp z] at e; exact absurd e.symm hne
  have hu2 : ∀ p ∈ ([(tabAt K nR, nmRun), (tabAt K nT, nmTab)] : List (Addr × Str)), p.1 = tabAt K nT → p.2 = nmTab := fun p hp e => by
    rcases List.mem_cons.mp hp with z | z
    · rw [z] at e; exact absurd e hne
    · rw [List.mem_singleton.mp z]
  have X__law_run_right : FnGX PGM w K mg base 11 "_law_run_right" ["_law_claim_so", "_law_number_so", "_law_paper_so", "_law_least_so"] (spRunRight [(tabAt K nR, nmRun), (tabAt K nT, nmTab)] K) := ⟨⟨_, _, m__law_run_right, F__law_run_right.kp, (F__law_run_right.binds (fun _ _ _ _ _ _ us hl => match us, hl with | [_, _, _, _], _ => rfl)), ok_run_right (funL_of F__law_run_right) T Y R X__law_led m_Desk___init__ G_dinit b_Desk___init__ TB1 (by simp) hu1⟩⟩
  have X__law_table_right : FnGX PGM w K mg base 9 "_law_table_right" ["_law_m", "_law_claim_so", "_law_number_so", "_law_table_so"] (spTableRight [(tabAt K nR, nmRun), (tabAt K nT, nmTab)] K) := ⟨⟨_, _, m__law_table_right, F__law_table_right.kp, (F__law_table_right.binds (fun _ _ _ _ _ _ us hl => match us, hl with | [_, _, _, _], _ => rfl)), ok_table_right (funL_of F__law_table_right) T R D_states D__law_first D__law_beat X__law_next D_verdict TB2 (by simp) hu2⟩⟩
  have X__law_right : FnGX PGM w K mg base 12 "_law_right" ["_law_m", "_law_claim_so", "_law_number_so"] (spRight [(tabAt K nR, nmRun), (tabAt K nT, nmTab)] K) := ⟨⟨_, _, m__law_right, F__law_right.kp, (F__law_right.binds (fun _ _ _ _ _ _ us hl => match us, hl with | [_, _, _], _ => rfl)), ok_right (funL_of F__law_right) T X__law_shortest D_safety_paper D_check_safety X__law_table_right X__law_run_right⟩⟩
  exact ok_law (funL_of F_law) T X__law_start X__law_small X__law_shortest D_claim_text D_read_claim D_cut D_safety_paper D_check_safety X__law_right
theorem law_codes (X : K.In h) (c : obsK K = valK) : (∀ p ∈ csM K, PySem.W.CodeHd h p.1 p.2) ∧ ∀ p ∈ csM K, K.lookup p.2 = none := by
  have cM : moreB K = true := congrArg (fun z : ObsM => z.1.2) c
  obtain ⟨y1, cM⟩ := PySem.BadX.ba cM
  obtain ⟨y2, cM⟩ := PySem.BadX.ba cM
  obtain ⟨y3, cM⟩ := PySem.BadX.ba cM
  obtain ⟨y4, cM⟩ := PySem.BadX.ba cM
  obtain ⟨y5, y6⟩ := PySem.BadX.ba cM
  obtain ⟨a1, a2⟩ := codeB_ok X y4
  obtain ⟨b1, b2⟩ := codeB_ok X y5
  refine ⟨fun p hp => ?_, fun p hp => ?_⟩
  · rcases List.mem_cons.mp hp with z | z
    · rw [z]; exact a1
    · rw [List.mem_singleton.mp z]; exact b1
  · rcases List.mem_cons.mp hp with z | z
    · rw [z]; exact a2
    · rw [List.mem_singleton.mp z]; exact b2
end
end Pm
set_option maxHeartbeats 0
/-! ED: the theorem -/
namespace Pm
open PySem PySem.Spec PyProof.Rows L2 LamX
theorem law_walk : PySem.W.WalkO (PySem.W.view RWM.prog [92]) nmsM (PySem.W.XL (PySem.W.view RWM.prog [92]) []) hkM.says RWM.toRowW (HandSHeadRun.topDef RWM.prog 92) [] fun f vs => PySem.call f vs := by
  refine Att.attach_callB (l := PySem.Challenge.rw_pumphouse_k97_whole_way_of_claims) (n := 63) rfl (by kernel_rfl) fun w s₀ s₁ mg mb fa o pm cd doc a vs ns G Y ho hd hcd hmg hobj hints hlen hbits hg => ?_
  obtain ⟨K, KX, c, t1, t2⟩ := Y
  have e : (HandSHeadRun.topDef RWM.prog 92).name = ("law" : Str) := by kernel_rfl
  rw [e] at hmg
  obtain ⟨fd, FL, hF⟩ := law_facts w KX G.T.g c
  have ea : fa = He.ga K "law" := by
    have cD : He.SaysD faM fnM K := congrArg (fun z : ObsM => z.1.1) c
    have := hmg.symm.trans (He.glo_ok KX G.T.g (cD.fact 48 (f := .glo "law") rfl))
    cases this
    rfl
  subst ea
  obtain ⟨h1, h2⟩ := law_codes KX c
  have C : Called K mg mb (csM K) s₁ a vs ns := ⟨KX, G.T.g, G.T.b, G.T.builtins, G.T.nolimit, hg, fun p hp => by
    rcases List.mem_cons.mp hp with z | z
    · rw [z]; exact t1
    · rw [List.mem_singleton.mp z]; exact t2, h2, h1, G.T.bmain, hobj, hints, Nat.le_trans hlen (by decide)⟩
  have b := FL.fn.binds (ps := ["_law_script"]) (fun _ _ _ _ _ _ us hl => match us, hl with | [_], _ => rfl)
  refine law_endG (P := PGM) (w := w) C ⟨rfl, by decide, by decide⟩ hF (fun s u => ?_) fun H hH hS => ?_
  · obtain ⟨oc, od, kV, doc, pm, an, cdv, osl, rfl, _⟩ := FL.ex
    exact .of_eq rfl
  · refine ⟨a, ns, rfl, hS, hlen, fun p hp => ?_, fun _ => rfl⟩
    rcases List.mem_cons.mp hp with z | z
    · rw [z]; exact TabS.nil (hH (codeAt K nR, tabAt K nR) (by simp))
    · rw [List.mem_singleton.mp z]; exact TabS.nil (hH (codeAt K nT, tabAt K nT) (by simp))
end Pm
open PySem PySem.W PySem.Calls PyProof.Rows
theorem PySem.Challenge.cw_pumphouse_k97_whole_way_of_claims_holds : PySem.Challenge.rw_pumphouse_k97_whole_way_of_claims.Holds := by
  w_on; o_law
  refine HandSHeadRun.head_any (r := Pm.RWM) (q := view Pm.RWM.prog [92]) (H := Pm.hkM) (ob := Pm.obM) (M := 6000) (loose := Pm.nmsM) (d := HandSHeadRun.topDef Pm.RWM.prog 92) (kwd := []) Pm.obM_eq
    (by kernel_rfl) (fun s => by kernel_rfl) Pm.runM (by kernel_rfl) (by kernel_rfl) (by kernel_rfl) (by rfl) (by first | assumption | decide +kernel) (by decide +kernel) ⟨rfl, rfl, rfl, rfl, rfl, by decide +kernel⟩ ?hw ?hc
  case hw => w_witness2
  case hc => exact Pm.law_walk
