import PyProof.Rows.All
import Wide.All
import OpenK.AllK
import Wide.FinOn
import KE.KStateDown
import KE.KSortRegAny
import KE.SortData
import KE.KDictKeyed
import KE.KDictZip
import KE.GoesEnum
import PyProof.SeqIndex
import Lean
import HandS.ForMost
import HandS.More
import HandS.Defaults
import HandS.MakeKw
import HandS.MakeKwOnly
import HandS.Star
import HandS.IsInst
import HandS.ClsMeth
import HandS.Property
import HandS.CallLocal
import HandS.IterVal
import HandS.NoneIn
import HandS.Style
import HandS.Conv
import HandS.Wide
import HandS.WideBits
import HandS.TupSets
import HandS.Deep
import HandS.DictComp
import HandS.DictTup
import HandS.OwnEq
import HandS.TupLe
import HandS.HeadNt
import HandS.HeadHook4
import HandS.HeadEnd
import HandS.Head2
import PySem.Challenge.RW_squareloops_k86_whole_known_programs
import HandS.Strs
import HandS.Walk
import KE.GoesZip
import KE.GoesMore
import PyProof.EnumMake
import KE.BitLaws
import HandS.Small
set_option Elab.async false
set_option linter.all false
set_option maxRecDepth 100000
set_option maxHeartbeats 4000000
/-! ## The text by places, the facts behind the top -/
namespace Sq
open PySem PySem.Spec PyProof.Rows L2 He
/-- the i-th statement of the top -/
def top (i : Nat) : Stmt := PySem.Challenge.pw_squareloops_k86_whole_known_programs.main.body.getD i (.Pass ⟨0, 0, 0, 0⟩)
/-- the default of Sizes.__init__'s listed -/
def dflAd (K : PySem.W.Frag) : Addr := He.dflAt ("Sizes", some "__init__") 0 K
def d_bound_value : He5.DefA := ⟨fun K => ga K "bound_value", "bound_value", "bound_value", defArgs (top 4), defBody (top 4), defScope (top 4), [], []⟩
def d_is_bound : He5.DefA := ⟨fun K => ga K "is_bound", "is_bound", "is_bound", defArgs (top 5), defBody (top 5), defScope (top 5), [], []⟩
def d_is_loop : He5.DefA := ⟨fun K => ga K "is_loop", "is_loop", "is_loop", defArgs (top 6), defBody (top 6), defScope (top 6), [], []⟩
def d_goes_down : He5.DefA := ⟨fun K => ga K "goes_down", "goes_down", "goes_down", defArgs (top 7), defBody (top 7), defScope (top 7), [], []⟩
def d_loop_range : He5.DefA := ⟨fun K => ga K "loop_range", "loop_range", "loop_range", defArgs (top 8), defBody (top 8), defScope (top 8), [], []⟩
def d_in_loop : He5.DefA := ⟨fun K => ga K "in_loop", "in_loop", "in_loop", defArgs (top 9), defBody (top 9), defScope (top 9), [], []⟩
def d_is_guard : He5.DefA := ⟨fun K => ga K "is_guard", "is_guard", "is_guard", defArgs (top 22), defBody (top 22), defScope (top 22), [], []⟩
def d_parsed_deed : He5.DefA := ⟨fun K => ga K "parsed_deed", "parsed_deed", "parsed_deed", defArgs (top 23), defBody (top 23), defScope (top 23), [], []⟩
def d_number_of : He5.DefA := ⟨fun K => ga K "number_of", "number_of", "number_of", defArgs (top 24), defBody (top 24), defScope (top 24), [], []⟩
def d_place_cell : He5.DefA := ⟨fun K => ga K "place_cell", "place_cell", "place_cell", defArgs (top 25), defBody (top 25), defScope (top 25), [], []⟩
def d_holds : He5.DefA := ⟨fun K => ga K "holds", "holds", "holds", defArgs (top 26), defBody (top 26), defScope (top 26), [], []⟩
def d_do_deed : He5.DefA := ⟨fun K => ga K "do_deed", "do_deed", "do_deed", defArgs (top 27), defBody (top 27), defScope (top 27), [], []⟩
def d_is_integer : He5.DefA := ⟨fun K => ga K "is_integer", "is_integer", "is_integer", defArgs (top 47), defBody (top 47), defScope (top 47), [], []⟩
def d_within : He5.DefA := ⟨fun K => ga K "within_values", "within", "within", defArgs (top 48), defBody (top 48), defScope (top 48), [], []⟩
def d_is_cell : He5.DefA := ⟨fun K => ga K "is_cell", "is_cell", "is_cell", defArgs (top 50), defBody (top 50), defScope (top 50), [], []⟩
def d_check_size : He5.DefA := ⟨fun K => ga K "check_size", "check_size", "check_size", defArgs (top 53), defBody (top 53), defScope (top 53), [], []⟩
def d_check_cell : He5.DefA := ⟨fun K => ga K "check_cell", "check_cell", "check_cell", defArgs (top 54), defBody (top 54), defScope (top 54), [], []⟩
def d_images_of : He5.DefA := ⟨fun K => ga K "images_of", "images_of", "images_of", defArgs (top 58), defBody (top 58), defScope (top 58), [], []⟩
def d_found_kind : He5.DefA := ⟨fun K => ga K "found_kind", "found_kind", "found_kind", defArgs (top 59), defBody (top 59), defScope (top 59), [], []⟩
def d_least_size : He5.DefA := ⟨fun K => ga K "least_size", "least_size", "least_size", defArgs (top 60), defBody (top 60), defScope (top 60), [], []⟩
def d_corner : He5.DefA := ⟨fun K => ga K "corner", "corner", "corner", defArgs (top 61), defBody (top 61), defScope (top 61), [], []⟩
def d_stands_at : He5.DefA := ⟨fun K => ga K "stands_at", "stands_at", "stands_at", defArgs (top 62), defBody (top 62), defScope (top 62), [], []⟩
def d_standing_kinds : He5.DefA := ⟨fun K => ga K "standing_kinds", "standing_kinds", "standing_kinds", defArgs (top 63), defBody (top 63), defScope (top 63), [], []⟩
def d_falls_at : He5.DefA := ⟨fun K => ga K "falls_at", "falls_at", "falls_at", defArgs (top 65), defBody (top 65), defScope (top 65), [], []⟩
def d_orbit_rounds : He5.DefA := ⟨fun K => ga K "orbit_rounds", "orbit_rounds", "orbit_rounds", defArgs (top 66), defBody (top 66), defScope (top 66), [], []⟩
def d_starts : He5.DefA := ⟨fun K => ga K "starts", "starts", "starts", defArgs (top 67), defBody (top 67), defScope (top 67), [], []⟩
def d_moves_from : He5.DefA := ⟨fun K => ga K "moves_from", "moves_from", "moves_from", defArgs (top 70), defBody (top 70), defScope (top 70), [], []⟩
def d_effect_on : He5.DefA := ⟨fun K => ga K "effect_on", "effect_on", "effect_on", defArgs (top 71), defBody (top 71), defScope (top 71), [], []⟩
def d_bits_of : He5.DefA := ⟨fun K => ga K "bits_of", "bits_of", "bits_of", defArgs (top 72), defBody (top 72), defScope (top 72), [], []⟩
def d_least_contents : He5.DefA := ⟨fun K => ga K "least_contents", "least_contents", "least_contents", defArgs (top 73), defBody (top 73), defScope (top 73), [], []⟩
def d_check_program : He5.DefA := ⟨fun K => ga K "check_program", "check_program", "check_program", defArgs (top 79), defBody (top 79), defScope (top 79), [], []⟩
def d_check_listed : He5.DefA := ⟨fun K => ga K "check_listed", "check_listed", "check_listed", defArgs (top 85), defBody (top 85), defScope (top 85), [], []⟩
def d_check_tail : He5.DefA := ⟨fun K => ga K "check_tail", "check_tail", "check_tail", defArgs (top 86), defBody (top 86), defScope (top 86), [], []⟩
def d_tail_from : He5.DefA := ⟨fun K => ga K "tail_from", "tail_from", "tail_from", defArgs (top 87), defBody (top 87), defScope (top 87), [], []⟩
def d_goes_on : He5.DefA := ⟨fun K => ga K "goes_on", "goes_on", "goes_on", defArgs (top 88), defBody (top 88), defScope (top 88), [], []⟩
def d_sizes_where : He5.DefA := ⟨fun K => ga K "sizes_where", "sizes_where", "sizes_where", defArgs (top 92), defBody (top 92), defScope (top 92), [], []⟩
def d_source_of : He5.DefA := ⟨fun K => ga K "source_of", "source_of", "source_of", defArgs (top 96), defBody (top 96), defScope (top 96), [], []⟩
def d_named_moves : He5.DefA := ⟨fun K => ga K "named_moves", "named_moves", "named_moves", defArgs (top 97), defBody (top 97), defScope (top 97), [], []⟩
def d_met_kinds : He5.DefA := ⟨fun K => ga K "met_kinds", "met_kinds", "met_kinds", defArgs (top 98), defBody (top 98), defScope (top 98), [], []⟩
def d_check_action : He5.DefA := ⟨fun K => ga K "check_action", "check_action", "check_action", defArgs (top 100), defBody (top 100), defScope (top 100), [], []⟩
def d_agree_at : He5.DefA := ⟨fun K => ga K "agree_at", "agree_at", "agree_at", defArgs (top 103), defBody (top 103), defScope (top 103), [], []⟩
def d_agree : He5.DefA := ⟨fun K => ga K "agree", "agree", "agree", defArgs (top 104), defBody (top 104), defScope (top 104), [], []⟩
def d_law_purl : He5.DefA := ⟨fun K => ga K "_law_purl", "_law_purl", "_law_purl", defArgs (top 106), defBody (top 106), defScope (top 106), [], []⟩
def d_law_dig : He5.DefA := ⟨fun K => ga K "_law_dig", "_law_dig", "_law_dig", defArgs (top 107), defBody (top 107), defScope (top 107), [], []⟩
def d_law_far : He5.DefA := ⟨fun K => ga K "_law_far", "_law_far", "_law_far", defArgs (top 108), defBody (top 108), defScope (top 108), [], []⟩
def d_law_spot : He5.DefA := ⟨fun K => ga K "_law_spot", "_law_spot", "_law_spot", defArgs (top 109), defBody (top 109), defScope (top 109), [], []⟩
def d_law_cells : He5.DefA := ⟨fun K => ga K "_law_cells", "_law_cells", "_law_cells", defArgs (top 110), defBody (top 110), defScope (top 110), [], []⟩
def d_law_names : He5.DefA := ⟨fun K => ga K "_law_names", "_law_names", "_law_names", defArgs (top 111), defBody (top 111), defScope (top 111), [], []⟩
def d_law_known : He5.DefA := ⟨fun K => ga K "_law_known", "_law_known", "_law_known", defArgs (top 112), defBody (top 112), defScope (top 112), [], []⟩
def d_law_right : He5.DefA := ⟨fun K => ga K "_law_right", "_law_right", "_law_right", defArgs (top 113), defBody (top 113), defScope (top 113), [], []⟩
def d_law : He5.DefA := ⟨fun K => ga K "law", "law", "law", defArgs (top 114), defBody (top 114), defScope (top 114), [], []⟩
def d_Deed_init : He5.DefA := ⟨fun K => ma K (ga K "Deed") "__init__", "__init__", "Deed.__init__", defArgs (inClass (top 21) 0), defBody (inClass (top 21) 0), defScope (inClass (top 21) 0), [], []⟩
def d_Nest_init : He5.DefA := ⟨fun K => ma K (ga K "Nest") "__init__", "__init__", "Nest.__init__", defArgs (inClass (top 77) 0), defBody (inClass (top 77) 0), defScope (inClass (top 77) 0), [], []⟩
def d_Program_init : He5.DefA := ⟨fun K => ma K (ga K "Program") "__init__", "__init__", "Program.__init__", defArgs (inClass (top 78) 0), defBody (inClass (top 78) 0), defScope (inClass (top 78) 0), [], []⟩
def d_Sizes_init : He5.DefA := ⟨fun K => ma K (ga K "Sizes") "__init__", "__init__", "Sizes.__init__", defArgs (inClass (top 89) 0), defBody (inClass (top 89) 0), defScope (inClass (top 89) 0), [.adr fun K => dflAd K], [("even", .non), ("odd", .non), ("most", .int 200)]⟩
def d_Sizes_contains : He5.DefA := ⟨fun K => ma K (ga K "Sizes") "__contains__", "__contains__", "Sizes.__contains__", defArgs (inClass (top 89) 5), defBody (inClass (top 89) 5), defScope (inClass (top 89) 5), [], []⟩
def d_Sizes_eq : He5.DefA := ⟨fun K => ma K (ga K "Sizes") "__eq__", "__eq__", "Sizes.__eq__", defArgs (inClass (top 89) 10), defBody (inClass (top 89) 10), defScope (inClass (top 89) 10), [], []⟩
def d_Action_init : He5.DefA := ⟨fun K => ma K (ga K "Action") "__init__", "__init__", "Action.__init__", defArgs (inClass (top 99) 0), defBody (inClass (top 99) 0), defScope (inClass (top 99) 0), [], []⟩
def d_Action_of : He5.DefA := ⟨fun K => He5.wf K (ga K "Action") "classmethod" "of", "of", "Action.of", defArgs (inClass (top 99) 1), defBody (inClass (top 99) 1), defScope (inClass (top 99) 1), [], []⟩
def d_Action_named : He5.DefA := ⟨fun K => He5.wf K (ga K "Action") "classmethod" "named", "named", "Action.named", defArgs (inClass (top 99) 2), defBody (inClass (top 99) 2), defScope (inClass (top 99) 2), [], []⟩
def d_Action_falls : He5.DefA := ⟨fun K => He5.wf K (ga K "Action") "property" "falls", "falls", "Action.falls", defArgs (inClass (top 99) 3), defBody (inClass (top 99) 3), defScope (inClass (top 99) 3), [], []⟩
def d_Action_result : He5.DefA := ⟨fun K => ma K (ga K "Action") "result", "result", "Action.result", defArgs (inClass (top 99) 5), defBody (inClass (top 99) 5), defScope (inClass (top 99) 5), [], []⟩
def d_Action_eq : He5.DefA := ⟨fun K => ma K (ga K "Action") "__eq__", "__eq__", "Action.__eq__", defArgs (inClass (top 99) 10), defBody (inClass (top 99) 10), defScope (inClass (top 99) 10), [], []⟩
def fnL0 : List He5.DefA := [d_bound_value, d_is_bound, d_is_loop, d_goes_down, d_loop_range, d_in_loop, d_is_guard, d_parsed_deed, d_number_of, d_place_cell, d_holds, d_do_deed, d_is_integer, d_within, d_is_cell, d_check_size]
def fnL1 : List He5.DefA := [d_check_cell, d_images_of, d_found_kind, d_least_size, d_corner, d_stands_at, d_standing_kinds, d_falls_at, d_orbit_rounds, d_starts, d_moves_from, d_effect_on, d_bits_of, d_least_contents, d_check_program, d_check_listed]
def fnL2 : List He5.DefA := [d_check_tail, d_tail_from, d_goes_on, d_sizes_where, d_source_of, d_named_moves, d_met_kinds, d_check_action, d_agree_at, d_agree, d_law_purl, d_law_dig, d_law_far, d_law_spot, d_law_cells, d_law_names]
def fnL3 : List He5.DefA := [d_law_known, d_law_right, d_law, d_Deed_init, d_Nest_init, d_Program_init, d_Sizes_init, d_Sizes_contains, d_Sizes_eq, d_Action_init, d_Action_of, d_Action_named, d_Action_falls, d_Action_result, d_Action_eq]
def fnAll : List He5.DefA := fnL0 ++ fnL1 ++ fnL2 ++ fnL3
def glL0 : List Str := ["bound_value", "is_bound", "is_loop", "goes_down", "loop_range", "in_loop", "is_guard", "parsed_deed", "number_of", "place_cell", "holds", "do_deed", "is_integer", "within_values", "is_cell", "check_size"]
def glL1 : List Str := ["check_cell", "images_of", "found_kind", "least_size", "corner", "stands_at", "standing_kinds", "falls_at", "orbit_rounds", "starts", "moves_from", "effect_on", "bits_of", "least_contents", "check_program", "check_listed"]
def glL2 : List Str := ["check_tail", "tail_from", "goes_on", "sizes_where", "source_of", "named_moves", "met_kinds", "check_action", "agree_at", "agree", "_law_purl", "_law_dig", "_law_far", "_law_spot", "_law_cells", "_law_names"]
def glL3 : List Str := ["_law_known", "_law_right", "law", "meet_rows", "join_rows", "OUTER", "INNER", "PLACES", "FEWEST", "MOST", "NUMBERS", "SIGNS", "KINDS", "NAMES", "Deed", "Nest"]
def glL4 : List Str := ["Program", "Sizes", "Action"]
def glAll : List Str := glL0 ++ glL1 ++ glL2 ++ glL3 ++ glL4
def frAll : List Str := ["len", "range", "isinstance", "max", "min", "sorted", "set", "tuple", "all", "any", "enumerate", "dict", "zip", "sum", "int", "abs", "divmod", "str", "bool"]
def asL0 : List Addr := [3, 22, 35, 48, 55, 62, 69, 76, 83, 84, 85, 86, 87, 88, 105, 116, 121, 128, 135, 142, 147, 459, 466, 473, 490]
def asL1 : List Addr := [497, 529, 536, 543, 550, 557, 564, 569, 576, 581, 586, 605, 610, 615, 620, 682, 759, 770, 796, 803, 810, 817, 925, 946, 947]
def asL2 : List Addr := [954, 959, 964, 1046, 1057, 1067, 1072, 1079, 1086, 1093, 1100, 1107, 1114, 1121, 1128, 1133, 24, 27, 30, 33, 37, 38, 39, 40, 47]
def asL3 : List Addr := [54, 61, 68, 75, 82, 104, 115, 120, 127, 134, 141, 146, 458, 465, 472, 489, 496, 505, 506, 507, 508, 509, 510, 511, 512]
def asL4 : List Addr := [513, 514, 515, 516, 517, 518, 519, 520, 521, 522, 523, 524, 525, 526, 527, 528, 535, 542, 549, 556, 563, 568, 575, 580, 585]
def asL5 : List Addr := [604, 609, 614, 619, 681, 758, 769, 795, 802, 809, 816, 924, 945, 953, 958, 963, 1045, 1056, 1066, 1071, 1078, 1085, 1092, 1099, 1106]
def asL6 : List Addr := [1113, 1120, 1127, 1132, 102, 634, 700, 832, 869, 896, 978, 985, 993, 1002, 1012, 1043, 101, 633, 699, 831, 826, 827, 868, 895, 977]
def asL7 : List Addr := [983, 991, 1001, 1011, 1042, 825, 982, 990, 1000, 2]
/-- the places of the objects that the facts look at (found by a run of the model, checked by the kernel with the facts) -/
def asL : List Addr := asL0 ++ asL1 ++ asL2 ++ asL3 ++ asL4 ++ asL5 ++ asL6 ++ asL7
/-! ### facts as Bools -/
/-- at a stands a tuple of these values -/
def tupA (K : PySem.W.Frag) (a : Addr) (vs : List V) : Bool := match K.lookup a with
  | some ⟨.type c, _, .seq its _, _⟩ => decide (c = "tuple") && (decide (its.size ≤ sizeLine) && relAll vs its.toList)
  | _ => false
theorem tupA_ok {K : PySem.W.Frag} {a : Addr} {vs : List V} (h : tupA K a vs = true) (H : Hp) : SqT K H a vs := by
  unfold tupA at h
  split at h
  · rename_i c d its n sl q
    obtain ⟨h1, h2⟩ := ba h
    obtain ⟨h3, h4⟩ := ba h2
    exact .inr ⟨_, its, n, q, congrArg Value.type (of_decide_eq_true h1), rfl, of_decide_eq_true h3, relAll_ok h4⟩
  · cases h
/-- what stands in a dict of the top under a text -/
def outAd (K : PySem.W.Frag) (x b : Str) : Addr := match PySem.W.nsIn K (ga K x) b with
  | some (some (.ref a)) => a
  | _ => 0
/-- the i-th item of a tuple of the top -/
def itAd (K : PySem.W.Frag) (x : Str) (i : Nat) : Addr := match K.lookup (ga K x) with
  | some ⟨_, _, .seq its _, _⟩ => (match its.toList[i]? with
    | some (.ref a) => a
    | _ => 0)
  | _ => 0
abbrev tabB (K : PySem.W.Frag) (x b : Str) (vs : List V) : Bool := eqO (PySem.W.nsIn K (ga K x) b) (some (some (.ref (outAd K x b)))) && tupA K (outAd K x b) vs
abbrev missB (K : PySem.W.Frag) (x b : Str) : Bool := eqO (PySem.W.nsIn K (ga K x) b) (some none)
abbrev intB (K : PySem.W.Frag) (x b : Str) (i : Int) : Bool := match PySem.W.nsIn K (ga K x) b with
  | some (some (.int j _)) => decide (j = i)
  | _ => false
/-- the bounds that the eighteen programs name: (text, base, step) -/
def outTab : List (Str × Str × Int) := [("0", "0", 0), ("n", "n", 0), ("n//2", "n//2", 0), ("(n+1)//2", "(n+1)//2", 0)]
def inTab : List (Str × Str × Int) := [("i", "i", 0), ("i+1", "i", 1), ("n-i-1", "n-i", -1), ("n-i", "n-i", 0)]
def kinds : List (List Int) := [[0, 0, 0], [0, 0, 1], [0, 0, 2], [0, 0, 3], [0, 1, 0], [0, 1, 1], [0, 1, 2], [0, 1, 3], [0, 2, 0], [0, 2, 1], [0, 2, 2], [0, 2, 3], [1, 0, 0], [1, 0, 1], [1, 0, 2], [1, 0, 3], [1, 1, 0], [1, 1, 1], [1, 1, 2], [1, 1, 3], [1, 2, 0], [1, 2, 1], [1, 2, 2], [1, 2, 3]]
abbrev kiAd (K : PySem.W.Frag) (i : Nat) : Addr := itAd K "KINDS" i
/-- the class's own == and no own != -/
def neB (K : PySem.W.Frag) (C : Addr) : Bool := match K.lookup C with
  | some ⟨.type "type", _, .cls cd, sl⟩ => (match cd.mro, sl.toList with
    | [.ref D, .type "object"], [_, _, _, _, some (.builtin _), _] => decide (D = C) && (!cd.hasDel && (PySem.W.nsOkIn K cd.ns && (eqO (PySem.W.nsIn K cd.ns "__ne__") (some none) && eqO (PySem.W.nsIn K cd.ns "__eq__") (some (some (.ref (ma K C "__eq__")))))))
    | _, _ => false)
  | _ => false
/-- what isinstance asks of an own class -/
def insB (K : PySem.W.Frag) (C : Addr) : Bool := eqO (PySem.W.findIn K (.ref C) "__class__") (some (some (.builtin "object.__class__"))) && (eqO (PySem.W.specialIn K (.builtin "object.__class__") "__get__") (some (some (.builtin "getset_descriptor.__get__"))) &&
  (decide (PySem.W.takesIn K (.builtin "object.__class__") = some true) && (decide (PySem.W.mroIn K C (.type "object") = some true) && decide (PySem.W.kitOne K (.ref C) (.ref C) = some true))))
/-- a property of a class -/
def propB (K : PySem.W.Frag) (C : Addr) (f : Str) : Bool := eqO (PySem.W.findIn K (.ref C) f) (some (some (.ref (ma K C f)))) && (eqO (PySem.W.specialIn K (.ref (ma K C f)) "__get__") (some (some (.builtin "property.__get__"))) &&
  (decide (PySem.W.takesIn K (.ref (ma K C f)) = some true) && (match PySem.W.recIn K (ma K C f) "property" with
    | some (.ref _ :: _) => true
    | _ => false)))
def places : List Str := ["i,j", "j,i", "i,~j", "~j,i", "~i,j", "j,~i", "~i,~j", "~j,~i"]
def numbers : List Str := ["i", "j", "~i", "~j"]
def signs : List Str := ["<", "<=", "==", "!="]
def nmL : List Str := ["same", "transpose", "slant", "upside", "mirror", "half", "right", "left"]
def exB (K : PySem.W.Frag) : Bool :=
  (outTab.all fun t => tabB K "OUTER" t.1 [.str t.2.1, .int t.2.2]) && ((inTab.all fun t => missB K "OUTER" t.1 && tabB K "INNER" t.1 [.str t.2.1, .int t.2.2]) &&
  (intB K "FEWEST" "swap" 2 && (intB K "FEWEST" "turn" 3 && (intB K "MOST" "swap" 2 && (intB K "MOST" "turn" 8 &&
  (tupA K (ga K "KINDS") ((List.range 24).map fun i => V.ref (kiAd K i)) && (((List.range 24).all fun i => tupA K (kiAd K i) ((kinds.getD i []).map V.int)) &&
  (tupA K (ga K "PLACES") (places.map V.str) && (tupA K (ga K "NUMBERS") (numbers.map V.str) &&
  (tupA K (ga K "SIGNS") (signs.map V.str) && (tupA K (ga K "NAMES") (nmL.map V.str) &&
  (tupA K (dflAd K) [] && (neB K (ga K "Sizes") && (insB K (ga K "Program") && (insB K (ga K "Nest") && (insB K (ga K "Sizes") && (insB K (ga K "Action") &&
  (propB K (ga K "Action") "falls" && (PySem.W.readsIn K (ga K "Action") (.type "type") && (eqO (PySem.W.specialIn K (.ref (ga K "Action")) "__getattribute__") (some (some (.builtin "type.__getattribute__"))) &&
  (He5.wrapB K (ga K "Action") "classmethod" "classmethod.__get__" "of" && (PySem.W.fnIn K (He5.wf K (ga K "Action") "classmethod" "of") && (He5.wrapB K (ga K "Action") "classmethod" "classmethod.__get__" "named" && PySem.W.fnIn K (He5.wf K (ga K "Action") "classmethod" "named"))))))))))))))))))))))))
def faM : List Fa := [.int "MOST_NESTS" 4, .int "MOST_DEEDS" 6, .int "MOST_SIZE" (10 ^ 30), .int "DECIDING" 11, .cls "Deed", .cls "Nest", .cls "Program", .cls "Sizes", .cls "Action", .mkr "Deed", .mkr "Nest", .mkr "Program", .mkr "Sizes", .mkr "Action"]
def faN : List Fa := [.noat "Deed" "word", .noat "Deed" "spots", .noat "Deed" "guard", .noat "Nest" "over", .noat "Nest" "below", .noat "Nest" "texts", .noat "Nest" "parsed", .noat "Program" "parts", .noat "Sizes" "tails", .noat "Sizes" "few", .noat "Action" "moves", .noat "Action" "gaps"]
def faO : List Fa := [.meth "Sizes" "__contains__", .meth "Sizes" "__eq__", .meth "Action" "result", .meth "Action" "__eq__"]
def faAll : List Fa := faM ++ faN ++ faO ++ glAll.map Fa.glo ++ frAll.map Fa.free
abbrev Tab' : Type := (PySem.W.Frag → Addr) × List Str
def tabs : List Tab' := [(fun K => ga K "OUTER", ["-1", "0", "1", "n-1", "n", "n+1", "n//2-1", "n//2", "n//2+1", "(n+1)//2-1", "(n+1)//2", "(n+1)//2+1"]), (fun K => ga K "INNER", ["i-1", "i", "i+1", "n-i-1", "n-i", "n-i+1"]),
  (fun K => ga K "FEWEST", ["swap", "copy", "order", "turn"]), (fun K => ga K "MOST", ["swap", "copy", "order", "turn"])]
/-! ### the Hook -/
abbrev AlZ : Type := AlD × List (Option (List (Option (Str × Int)))) × Bool
def obsZ (K : PySem.W.Frag) : AlZ := (He5.obsA faAll fnAll K, tabs.map (fun t => dicW K (t.1 K)), exB K)
def valZ (w : World) : AlZ := (He5.valA fnAll, tabs.map (fun t => some (keysIn w.params t.2)), true)
def obsZG (g : Addr → Option Obj) : AlZ := obsZ (frG g asL)
def SaysZ (w : World) (K : PySem.W.Frag) : Prop := obsZ K = valZ w
def hookZ : PySem.W.Hook where
  α := AlZ
  obs := fun s => obsZG s.heap.get?
  val := fun w => valZ w
  says := fun w h => ∃ K : PySem.W.Frag, K.In h ∧ SaysZ w K
  of := fun _ _ e => ⟨_, frG_in, e⟩
  keeps := fun _ _ _ ⟨K, hK, c⟩ k => ⟨K, PySem.W.Frag.In.keeps hK k, c⟩
theorem obsZG_eq {g : Addr → Option Obj} {s : Shared} (h : ∀ a, g a = s.heap.get? a) : obsZG g = hookZ.obs s := by
  have e : g = s.heap.get? := funext h
  rw [e]
  rfl
/-- all that the walk asks of the text behind the top -/
structure TX (w : World) (K : PySem.W.Frag) (mg : Str → Option Value) : Prop where
  says : SaysZ w K
  glo : ∀ x, glAll.contains x = true → mg x = some (.ref (ga K x))
  free : ∀ x, frAll.contains x = true → mg x = none
  nests : ∃ t, mg "MOST_NESTS" = some (.int 4 t)
  deeds : ∃ t, mg "MOST_DEEDS" = some (.int 6 t)
  size : ∃ t, mg "MOST_SIZE" = some (.int (10 ^ 30) t)
  deciding : ∃ t, mg "DECIDING" = some (.int 11 t)
section
variable {w : World} {K : PySem.W.Frag} {mg : Str → Option Value} {h : Heap}
theorem SaysZ.a (c : SaysZ w K) : He5.SaysA faAll fnAll K := congrArg (fun z : AlZ => z.1) c
theorem SaysZ.ex (c : SaysZ w K) : exB K = true := congrArg (fun z : AlZ => z.2.2) c
theorem SaysZ.tab (c : SaysZ w K) (i : Nat) {t : Tab'} (h : tabs[i]? = some t := by rfl) : ∃ es n, KDict K w (t.1 K) es n := by
  have e : tabs.map (fun t => dicW K (t.1 K)) = tabs.map fun t => some (keysIn w.params t.2) := congrArg (fun z : AlZ => z.2.1) c
  have e2 : (tabs.map fun t => dicW K (t.1 K))[i]? = (tabs.map fun t => some (keysIn w.params t.2))[i]? := by rw [e]
  rw [List.getElem?_map, List.getElem?_map, h] at e2
  exact dicW_ok (Option.some.inj e2)
theorem SaysZ.fact (c : SaysZ w K) {f : Fa} (h : f ∈ faAll) : f.ok K = true := by
  obtain ⟨i, hi, e⟩ := List.mem_iff_getElem.mp h
  exact c.a.fact i (f := f) (by rw [List.getElem?_eq_getElem hi, e])
theorem TX.mk' (X : K.In h) (G : h.Ns mainGlobals mg) (c : SaysZ w K) : TX w K mg where
  says := c
  glo := fun x hx => glo_ok X G (c.fact (f := .glo x) (List.mem_append_left _ (List.mem_append_right _ (List.mem_map_of_mem (List.contains_iff_mem.mp hx)))))
  free := fun x hx => free_ok X G (c.fact (f := .free x) (List.mem_append_right _ (List.mem_map_of_mem (List.contains_iff_mem.mp hx))))
  nests := int_ok X G (c.a.fact 0)
  deeds := int_ok X G (c.a.fact 1)
  size := int_ok X G (c.a.fact 2)
  deciding := int_ok X G (c.a.fact 3)
theorem TX.g (T : TX w K mg) (x : Str) (h : glAll.contains x = true := by decide +kernel) : mg x = some (.ref (ga K x)) := T.glo x h
theorem TX.z (T : TX w K mg) (x : Str) (h : frAll.contains x = true := by decide +kernel) : mg x = none := T.free x h
theorem TX.fn (T : TX w K mg) {d : He5.DefA} (h : d ∈ fnAll) : ∃ fd, FunD K d.name d.qual d.params d.body d.scope (d.dvs K) (d.kws K) (d.at_ K) fd := by
  obtain ⟨i, hi, e⟩ := List.mem_iff_getElem.mp h
  exact T.says.a.def_ i (d := d) (by rw [List.getElem?_eq_getElem hi, e])
theorem TX.fi (T : TX w K mg) (i : Nat) {d : He5.DefA} (h : fnAll[i]? = some d := by rfl) : ∃ fd, FunD K d.name d.qual d.params d.body d.scope (d.dvs K) (d.kws K) (d.at_ K) fd := T.says.a.def_ i h
end
abbrev FnP (K : PySem.W.Frag) (x qual : Str) (st : Stmt) (f : Addr) (fd : FuncData) : Prop := FunD K x qual (defArgs st) (defBody st) (defScope st) [] [] f fd
/-! ### promises by positional values under a module's name -/
structure Fn (P : Program) (w : World) (K : PySem.W.Frag) (mg : Str → Option Value) (base : Heap) (k : Nat) (x : Str) (sp : Sp) : Prop where
  ex : ∃ f, FnR P w K mg base CX0 k f sp ∧ mg x = some (.ref f) ∧ PySem.W.keepIn K (.ref f) = true
section
variable {P : Program} {w : World} {K : PySem.W.Frag} {mg : Str → Option Value} {base : Heap}
theorem raw0 {x qual : Str} {st : Stmt} {f : Addr} {fd : FuncData} {N ps : List Str} {k : Nat} {sp : Sp} (F : FnP K x qual st f fd) (S : FnScope N ps (defScope st)) (len : ∀ vs H Q E, sp vs H Q E → vs.length = ps.length)
    (hb : ∀ (kV doc pm : Value) (an : Option Addr) (cdv ct : Value) (us : List Value), us.length = ps.length → bindArgs (PySem.W.fnOf x qual (defArgs st) (defBody st) (defScope st) .none kV doc pm an cdv ct) ⟨us, []⟩ = pure (ps.zip us))
    (hbody : ∀ (cdv : Value) (A : Around) (outer : List Env) (s : Shared) (H : Hp) (vs : List V) (Q : VK) (E : XK), Room k (A.deeper (envOfC qual (defScope st) s.heap.objs.size f cdv)) → sp vs H Q E →
      ∃ t, PSs (cxOf CX0 P w K mg base N qual (defScope st) f cdv A outer s H E).nox (defBody st) t ∧ t { nx := fun _ H' => Q .non H', rt := Q } (start N vs) H) : FnR P w K mg base CX0 (k + 1) f sp :=
  ((F.ok S len fun cdv A outer s H vs Q E hr h => let ⟨t, a, b⟩ := hbody cdv A outer s H vs Q E hr h; ⟨t, a.nox, b⟩).raw (F.bindsN hb) .nil).imp fun vs H Q E h => by rw [List.append_nil]; exact h
theorem Fn.mono {j k : Nat} {x : Str} {sp : Sp} (c : Fn P w K mg base j x sp) (h : j ≤ k) : Fn P w K mg base k x sp :=
  let ⟨f, F, m, kp⟩ := c.ex
  ⟨f, F.mono h, m, kp⟩
theorem Fn.imp {k : Nat} {x : Str} {sp sp' : Sp} (c : Fn P w K mg base k x sp) (h : ∀ vs H Q E, sp' vs H Q E → sp vs H Q E) : Fn P w K mg base k x sp' :=
  let ⟨f, F, m, kp⟩ := c.ex
  ⟨f, F.imp h, m, kp⟩
end
def tF (sp : Sp) (t : TA) : TE := fun σ H Q => t σ H fun vs H1 => sp vs H1 Q E0
section
variable {X : Cx} {k j : Nat} {x : Str} {sp : Sp} {p pos : Pos} {e : Expr} {es : List Expr} {t : TA}
/-- f(e, ..) by the promise -/
theorem pe_f (c : Fn X.prog X.w X.K X.mg X.base k x sp) (hr : Room j X.A) (ha : PA X (e :: es) t) (hk : k ≤ j := by decide) (hg : Gl X x := by rfl)
    (hdb : (x == ("__debug__" : Str)) = false := by decide) (he : starEach (e :: es) X.env = (false, eval e X.env) :: starEach es X.env := by rfl) (hpl : (backTo pos (starEach es X.env)).any (·.1) = false := by rfl) :
    PE X (.Call (.Name x p) (e :: es) [] pos) (tF sp t) := by
  obtain ⟨f, F, hm, kp⟩ := c.ex
  refine ⟨fun pins s σ H Q I h => ?_⟩
  refine wpAny_Call_Name_kw (ld_glob I hg hm ?_ hdb)
  refine PySem.W.callWith_K (h₀ := X.base) I.ok.mod.kin kp (thn (ha.run pos pins s σ H _ I h) fun us s1 ⟨vs, H1, I1, r, q⟩ => ⟨I1.kIn, ?_⟩) he hpl
  exact wpAny_call (run_fnR F (hr.mono hk) pass0 I1 r q)
theorem pe_f0 (c : Fn X.prog X.w X.K X.mg X.base k x sp) (hr : Room j X.A) (hk : k ≤ j := by decide) (hg : Gl X x := by rfl) (hdb : (x == ("__debug__" : Str)) = false := by decide) :
    PE X (.Call (.Name x p) [] [] pos) (tF sp tNil) := by
  obtain ⟨f, F, hm, kp⟩ := c.ex
  refine ⟨fun pins s σ H Q I h => ?_⟩
  refine wpAny_Call_Name_kw (ld_glob I hg hm ?_ hdb)
  exact PySem.W.callWith_K0 I.kIn kp (wpAny_call (run_fnR (us := []) F (hr.mono hk) pass0 I .nil h))
end
/-- pushes an equation of places through -/
theorem upd_get {H : Hp} {a b : Addr} {o u : HO} (h : H b = some u) (hn : H a = none) : upd H a o b = some u := by
  rw [upd_ne (ne_of_none h hn)]
  exact h
theorem Same.upd {H H' : Hp} {a : Addr} {o : HO} (s : Same H H') (h : H' a = none) : Same H (L2.upd H' a o) := fun b u e => upd_get (s b u e) h
theorem Same.tup {K : PySem.W.Frag} {H H' : Hp} {a : Addr} {xs : List V} (s : Same H H') (h : SqT K H a xs) : SqT K H' a xs := by
  rcases h with (h | ⟨o, h⟩) | h
  · exact .inl (.inl (s _ _ h))
  · exact .inl (.inr ⟨o, s _ _ h⟩)
  · exact .inr h
end Sq

set_option Elab.async false
set_option linter.all false
set_option maxRecDepth 100000
set_option maxHeartbeats 0
/-! ## The head: the top's run, by both sides of one row of the world -/
namespace Sq
namespace H
open PySem PySem.W PySem.Calls PyProof.Rows
abbrev R : OpenRow := OpenLaw.row PySem.Challenge.rw_squareloops_k86_whole_known_programs
abbrev qv : Program := view R.prog [114]
def nm1 : List PySem.Str := ["_wall", "OUTER", "INNER", "bound_value", "is_bound", "is_loop", "goes_down", "loop_range", "in_loop", "MOST_NESTS", "MOST_DEEDS", "MOST_ROWS", "MOST_SIZE", "MOST_LISTED", "PLACES", "FEWEST", "MOST", "NUMBERS", "SIGNS", "Deed", "is_guard", "parsed_deed", "number_of", "place_cell", "holds", "do_deed"]
def nm2 : List PySem.Str := ["WrongValue", "InvalidLoop", "InvalidText", "InvalidSize", "InvalidCell", "InvalidTable", "InvalidCount", "InvalidTail", "NotAProgram", "NotAnAction", "InvalidDeeds", "InvalidNests", "InvalidListed", "WrongName", "UnknownName", "NoAnswer", "Falls"]
def nm2b : List PySem.Str := ["is_integer", "within", "within_values", "is_cell", "is_row", "is_table", "check_size", "check_cell", "check_table", "KINDS", "images_of", "found_kind", "least_size", "corner", "stands_at", "standing_kinds"]
def nm3 : List PySem.Str := ["falls_at", "orbit_rounds", "starts", "meet_rows", "join_rows", "moves_from", "effect_on", "bits_of", "least_contents", "OUTER_HEAD", "INNER_HEAD", "Nest"]
def nm3b : List PySem.Str := ["Program", "check_program", "nest_rows", "read_nests", "read_nest", "MOST_COUNT", "check_listed", "check_tail", "tail_from", "goes_on", "Sizes", "last_change", "deciding_sizes", "sizes_where", "NAMES", "DECIDING", "source_of", "named_moves", "met_kinds"]
def nm4 : List PySem.Str := ["Action", "check_action", "moved_entries", "agree_at", "agree", "_law_purl", "_law_dig", "_law_far", "_law_spot", "_law_cells", "_law_names", "_law_known", "_law_right"]
def names : List PySem.Str := nm1 ++ nm2 ++ nm2b ++ nm3 ++ nm3b ++ nm4
abbrev hk : Hook := hookZ
def ob (s : SharedT) : AlZ := obsZG (HandSHeadRun.getT s)
theorem ob_eq (s : SharedT) : ob s = hk.obs s.abs := obsZG_eq (HandSHeadRun.getT_eq s)
noncomputable def F1 (w : World) (s : SharedT) := (HandSHeadRun.looksF R.prog (boot_heap w.params) s.abs, HandSHeadRun.seenQ qv names (importedModules R.prog.main.body) (fun s => xlAt qv [] s && recOk R.toRowW.records s) s.abs)
theorem rA0 (os : OsState) (w : World) : (HandSHeadRun.endF (HandSHeadRun.stepQ (HandSHeadRun.denQ HandSHeadRun.tabQ) R.prog (w.withFollow "special-get-raises" false)) 20000 R.prog (w.withFollow "special-get-raises" false) os).map (F1 (w.withFollow "special-get-raises" false)) = some (true, openGood qv names) := by
  kernel_rfl
theorem rB0 (os : OsState) (w : World) : (HandSHeadRun.endF (HandSHeadRun.stepQ (HandSHeadRun.denQ HandSHeadRun.tabQ) R.prog (w.withFollow "special-get-raises" false)) 20000 R.prog (w.withFollow "special-get-raises" false) os).map ob = some (hk.val (w.withFollow "special-get-raises" false)) := by
  kernel_rfl
theorem rA1 (os : OsState) (w : World) : (HandSHeadRun.endF (HandSHeadRun.stepQ (HandSHeadRun.denQ HandSHeadRun.tabQ) R.prog (w.withFollow "special-get-raises" true)) 20000 R.prog (w.withFollow "special-get-raises" true) os).map (F1 (w.withFollow "special-get-raises" true)) = some (true, openGood qv names) := by
  kernel_rfl
theorem rB1 (os : OsState) (w : World) : (HandSHeadRun.endF (HandSHeadRun.stepQ (HandSHeadRun.denQ HandSHeadRun.tabQ) R.prog (w.withFollow "special-get-raises" true)) 20000 R.prog (w.withFollow "special-get-raises" true) os).map ob = some (hk.val (w.withFollow "special-get-raises" true)) := by
  kernel_rfl
theorem three {o : Option SharedT} {w : World} (hA : o.map (F1 w) = some (true, openGood qv names)) (hB : o.map ob = some (hk.val w)) : o.map (fun s => (HandSHeadRun.looksF R.prog (boot_heap w.params) s.abs, HandSHeadRun.seenQ qv names (importedModules R.prog.main.body) (fun s => xlAt qv [] s && recOk R.toRowW.records s) s.abs, ob s)) = some (true, openGood qv names, hk.val w) := by
  cases o with
  | none => cases hA
  | some s =>
    have e1 : F1 w s = (true, openGood qv names) := Option.some.inj hA
    have e2 : ob s = hk.val w := Option.some.inj hB
    have e3 : HandSHeadRun.looksF R.prog (boot_heap w.params) s.abs = true := congrArg Prod.fst e1
    have e4 : HandSHeadRun.seenQ qv names (importedModules R.prog.main.body) (fun s => xlAt qv [] s && recOk R.toRowW.records s) s.abs = openGood qv names := congrArg Prod.snd e1
    exact congrArg some (Prod.ext e3 (Prod.ext e4 e2))
theorem run (w : World) : HandSHeadRun.RunEq R qv hk ob 20000 names w := by
  intro os
  exact byRow2 "special-get-raises" (P := fun w => (HandSHeadRun.endF (HandSHeadRun.stepQ (HandSHeadRun.denQ HandSHeadRun.tabQ) R.prog w) 20000 R.prog w os).map (fun s => (HandSHeadRun.looksF R.prog (boot_heap w.params) s.abs, HandSHeadRun.seenQ qv names (importedModules R.prog.main.body) (fun s => xlAt qv [] s && recOk R.toRowW.records s) s.abs, ob s)) = some (true, openGood qv names, hk.val w)) (fun w => three (rA0 os w) (rB0 os w)) (fun w => three (rA1 os w) (rB1 os w)) w
theorem hd (call : WalkO qv names (XL qv []) hk.says R.toRowW (HandSHeadRun.topDef R.prog 114) [] fun f vs => PySem.call f vs) (hw : R.toRowW.promised) : R.Holds :=
  HandSHeadRun.head_any (r := R) (q := qv) (H := hk) (ob := ob) (M := 20000) (loose := names) (d := HandSHeadRun.topDef R.prog 114) (kwd := []) ob_eq
    (by kernel_rfl) (fun s => by kernel_rfl) run (by kernel_rfl) (by kernel_rfl) (by kernel_rfl) (by rfl) (by first | assumption | decide +kernel) (by decide +kernel) ⟨rfl, rfl, rfl, rfl, rfl, by decide +kernel⟩ hw call
end H
end Sq

set_option Elab.async false
set_option linter.all false
set_option maxRecDepth 100000
set_option maxHeartbeats 4000000
/-! ## Rules that the layer has not -/
namespace Sq
open PySem PySem.Spec PyProof.Rows L2 He
/-! ### in, ==, != by the own methods of a class -/
section
variable {X : Cx} {k : Nat} {C f : Addr} {sp : Sp}
abbrev rOwnIn (C : Addr) (sp : Sp) (neg : Bool) : R2 := fun x y H Q => ∃ a dx fs, y = .ref a ∧ H a = some (.ins C dx fs) ∧ sp [.ref a, x] H (fun v H' => ∃ b, v = .bl b ∧ Q (.bl (if neg then !b else b)) H') E0
theorem op_inOwn (hs : PySem.W.findIn X.K (.ref C) "__contains__" = some (some (.ref f))) (hf : PySem.W.isFn X.K (.ref f) = true) (F : FnR X.prog X.w X.K X.mg X.base CX0 k f sp) (hr : Room k X.A) : OpR X (compareOp .In) (rOwnIn C sp false) := by
  rintro pins s σ H x y v u Q I rx ry ⟨a, dx, fs, rfl, ea, q⟩
  cases ry
  obtain ⟨mA, O, _⟩ := ins_get I.hok ea
  obtain ⟨od, J, _⟩ := O.look
  obtain ⟨m, hF⟩ := I.fr
  refine PySem.W.in_K hF I.ok.mod.kin J hs hf (wpAny_mono (wpAny_call (run_fnR (us := [.ref a, v]) (vs := [.ref a, x]) F hr pass0 I (.cons rfl (.cons rx .nil)) q)) (fun r s' z => ?_) fun _ _ z => z)
  obtain ⟨vr, H', I', rv, b, rfl, q'⟩ := z
  cases rv
  exact wpAny_truthy_bool ⟨.bl b, H', I', rfl, q'⟩
theorem op_notinOwn (hs : PySem.W.findIn X.K (.ref C) "__contains__" = some (some (.ref f))) (hf : PySem.W.isFn X.K (.ref f) = true) (F : FnR X.prog X.w X.K X.mg X.base CX0 k f sp) (hr : Room k X.A) : OpR X (compareOp .NotIn) (rOwnIn C sp true) := by
  rintro pins s σ H x y v u Q I rx ry ⟨a, dx, fs, rfl, ea, q⟩
  cases ry
  obtain ⟨mA, O, _⟩ := ins_get I.hok ea
  obtain ⟨od, J, _⟩ := O.look
  obtain ⟨m, hF⟩ := I.fr
  refine PySem.W.notIn_K hF I.ok.mod.kin J hs hf (wpAny_mono (wpAny_call (run_fnR (us := [.ref a, v]) (vs := [.ref a, x]) F hr pass0 I (.cons rfl (.cons rx .nil)) q)) (fun r s' z => ?_) fun _ _ z => z)
  obtain ⟨vr, H', I', rv, b, rfl, q'⟩ := z
  cases rv
  exact wpAny_truthy_bool ⟨.bl (!b), H', I', rfl, q'⟩
abbrev rOwnEq (C : Addr) (sp : Sp) (neg : Bool) : R2 := fun x y H Q => ∃ a b dx dy fs gs, x = .ref a ∧ y = .ref b ∧ H a = some (.ins C dx fs) ∧ H b = some (.ins C dy gs) ∧ sp [.ref a, .ref b] H (fun v H' => ∃ k, v = .bl k ∧ Q (.bl (if neg then !k else k)) H') E0
theorem op_eqOwn (hs : PySem.W.findIn X.K (.ref C) "__eq__" = some (some (.ref f))) (hf : PySem.W.isFn X.K (.ref f) = true) (F : FnR X.prog X.w X.K X.mg X.base CX0 k f sp) (hr : Room k X.A) : OpR X (compareOp .Eq) (rOwnEq C sp false) := by
  rintro pins s σ H x y v u Q I rx ry ⟨a, b, dx, dy, fs, gs, rfl, rfl, ea, eb, q⟩
  cases rx
  cases ry
  obtain ⟨mA, O, _⟩ := ins_get I.hok ea
  obtain ⟨mB, O', _⟩ := ins_get I.hok eb
  obtain ⟨od, J, _⟩ := O.look
  obtain ⟨od', J', _⟩ := O'.look
  obtain ⟨m, hF⟩ := I.fr
  show wpAny (model X.prog X.w) X.A (richCompare .Eq (.ref a) (.ref b)) (EP X pins σ Q) X.xe s
  refine PySem.W.cmp_K (op := .Eq) (tb := .ref C) hr.units0 hF I.ok.mod.kin J J'.type (by simp [PySem.W.notFirst]) hs hf ?_
  refine wpAny_mono (wpAny_call (run_fnR (us := [.ref a, .ref b]) (vs := [.ref a, .ref b]) F hr pass0 I (.cons rfl (.cons rfl .nil)) q)) (fun r s' z => ?_) fun _ _ z => z
  obtain ⟨vr, H', I', rv, c, rfl, q'⟩ := z
  cases rv
  exact ⟨.bl c, H', I', rfl, q'⟩
/-- what stands in a table of names -/
theorem ns_some_of {K : PySem.W.Frag} {h : Heap} {N : Addr} {mg : Str → Option Value} {n : Str} {v : Value} (X : K.In h) (G : h.Ns N mg) (e : PySem.W.nsIn K N n = some (some v)) : mg n = some v := by
  obtain ⟨o, es, ep, ho, hd, _, hf⟩ := G
  unfold PySem.W.nsIn at e
  split at e
  · rename_i c d es' n' sl q
    have := X _ _ q
    rw [ho] at this
    cases this
    cases hd
    split at e
    · rename_i en he
      cases e
      rw [← hf]
      unfold nsFind findBy
      rw [← Array.find?_toList, he]
      rfl
    · first | (split at e <;> cases e) | cases e
  · cases e
/-- what the class at C must be that != goes by its == -/
theorem ownNe_of {K : PySem.W.Frag} {h : Heap} {a C : Addr} {o : Obj} (X : K.In h) (ho : h.get? a = some o) (hc : o.cls = .ref C) (hb : neB K C = true) {of : Obj} (hf : h.get? (ma K C "__eq__") = some of) (hfc : of.cls = .type "function") :
    h.OwnEqNoNe a C (ma K C "__eq__") "object" [.type "object"] := by
  unfold neB at hb
  split at hb
  · rename_i dd cd sl hl
    split at hb
    · rename_i D k0 k1 k2 k3 n k5 hm hs
      obtain ⟨b1, hb⟩ := ba hb
      obtain ⟨b2, hb⟩ := ba hb
      obtain ⟨b3, hb⟩ := ba hb
      obtain ⟨b4, b5⟩ := ba hb
      have e1 : D = C := of_decide_eq_true b1
      subst e1
      obtain ⟨nm, bs, mro, ns, qn, hd, sn, sub, ab, col, del⟩ := cd
      dsimp only at hm b2 b3 b4 b5
      have b2' : del = false := by cases del with
        | false => rfl
        | true => cases b2
      subst hm b2'
      have hsl : sl = #[k0, k1, k2, k3, some (.builtin n), k5] := by
        obtain ⟨l⟩ := sl
        simp only at hs
        rw [hs]
      subst hsl
      have hN : h.Ns ns (h.nsMap ns) := .of_isNs (PySem.W.isNs_of_in X b3)
      refine ⟨o, of, nm, qn, ns, bs, hd, sn, sub, ab, col, dd, k0, k1, k2, k3, k5, n, h.nsMap ns, _, ho, hc, X _ _ hl, hN, ?_, hf, hfc, PySem.F.cmp_object.mro, PySem.F.cmp_object.eq.lookup, PySem.W.nsMap_none_of_in X b3 (eqO_ok b4)⟩
      exact ns_some_of X hN (eqO_ok b5)
    · cases hb
  · cases hb

/-- a != b, by the class's own == -/
theorem op_neOwn (hn : neB X.K C = true) (hf : PySem.W.isFn X.K (.ref (ma X.K C "__eq__")) = true) (F : FnR X.prog X.w X.K X.mg X.base CX0 k (ma X.K C "__eq__") sp) (hr : Room (k + 1) X.A) : OpR X (compareOp .NotEq) (rOwnEq C sp true) := by
  rintro pins s σ H x y v u Q I rx ry ⟨a, b, dx, dy, fs, gs, rfl, rfl, ea, eb, q⟩
  cases rx
  cases ry
  obtain ⟨mA, O, _⟩ := ins_get I.hok ea
  obtain ⟨mB, O', _⟩ := ins_get I.hok eb
  obtain ⟨od, J, _⟩ := O.look
  obtain ⟨od', J', _⟩ := O'.look
  have hof : ∃ of : Obj, s.heap.get? (ma X.K C "__eq__") = some of ∧ of.cls = .type "function" := by
    have hf2 : ((X.K.lookup (ma X.K C "__eq__")).map (·.cls) == some (.type "function")) = true := hf
    obtain ⟨o, ho, hc⟩ := Option.map_eq_some_iff.mp (beq_iff_eq.mp hf2)
    exact ⟨o, I.kIn _ _ ho, hc⟩
  obtain ⟨of, e1, e2⟩ := hof
  have W := ownNe_of I.kIn J.at_ J.cls hn e1 e2
  obtain ⟨h, g, d, t, os⟩ := s
  refine compareOp_ne_ownEq PySem.F.cmp_object W J'.at_ J'.cls (by have := hr.units; omega) ?_
  refine wpAny_call (codeAny_mono (F X.A.in1 X.stack _ H [.ref a, .ref b] [.ref a, .ref b] _ E0 hr.in1 I.env0.in1 (.cons rfl (.cons rfl .nil)) q) fun r s' hq => ?_)
  cases r with
  | error e => exact pass0 pins σ H _ e s' I hq
  | ok fl =>
    cases fl with
    | ret u =>
      obtain ⟨vr, H', I', rv, c, rfl, q'⟩ := I.after hq
      cases rv
      exact ⟨c, rfl, .bl (!c), H', I', rfl, q'⟩
    | next => exact False.elim hq
    | brk => exact False.elim hq
    | cont => exact False.elim hq
end

/-! ### names of the top, classes -/
section
variable {X : Cx} {x : Str} {pos : Pos}
theorem pe_K {a : Addr} (hg : Gl X x) (hm : X.mg x = some (.ref a)) (hd : (x == ("__debug__" : Str)) = false := by decide) : PE X (.Name x pos) (tC (.ref a)) := pe_glob hg hm rfl hd
theorem pe_gi {i : Int} (hg : Gl X x) (hm : ∃ t, X.mg x = some (.int i t)) (hd : (x == ("__debug__" : Str)) = false := by decide) : PE X (.Name x pos) (tC (.int i)) := by
  obtain ⟨t, h⟩ := hm
  exact pe_glob hg h ⟨_, rfl⟩ hd
theorem pe_ty {n : String} (hg : Gl X x) (hm : X.mg x = none) (hv : bootBuiltins x = some (.type n)) (hn : x ≠ "__name__" := by decide) (hd : (x == ("__debug__" : Str)) = false := by decide) : PE X (.Name x pos) (tC (.ty n)) := pe_bltn hg hm hv rfl hn hd
end
/-! ### the facts of the top, one by one -/
structure ExZ (K : PySem.W.Frag) : Prop where
  out : ∀ t ∈ outTab, tabB K "OUTER" t.1 [.str t.2.1, .int t.2.2] = true
  inn : ∀ t ∈ inTab, missB K "OUTER" t.1 = true ∧ tabB K "INNER" t.1 [.str t.2.1, .int t.2.2] = true
  few_s : intB K "FEWEST" "swap" 2 = true
  few_t : intB K "FEWEST" "turn" 3 = true
  most_s : intB K "MOST" "swap" 2 = true
  most_t : intB K "MOST" "turn" 8 = true
  kindsT : tupA K (ga K "KINDS") ((List.range 24).map fun i => V.ref (kiAd K i)) = true
  kind : ∀ i ∈ List.range 24, tupA K (kiAd K i) ((kinds.getD i []).map V.int) = true
  placesT : tupA K (ga K "PLACES") (Sq.places.map V.str) = true
  numbersT : tupA K (ga K "NUMBERS") (Sq.numbers.map V.str) = true
  signsT : tupA K (ga K "SIGNS") (Sq.signs.map V.str) = true
  names : tupA K (ga K "NAMES") (nmL.map V.str) = true
  dfl : tupA K (dflAd K) [] = true
  ne : neB K (ga K "Sizes") = true
  insP : insB K (ga K "Program") = true
  insN : insB K (ga K "Nest") = true
  insS : insB K (ga K "Sizes") = true
  insA : insB K (ga K "Action") = true
  prop : propB K (ga K "Action") "falls" = true
  rd : PySem.W.readsIn K (ga K "Action") (.type "type") = true
  rd2 : PySem.W.specialIn K (.ref (ga K "Action")) "__getattribute__" = some (some (.builtin "type.__getattribute__"))
  of1 : He5.wrapB K (ga K "Action") "classmethod" "classmethod.__get__" "of" = true
  of2 : PySem.W.fnIn K (He5.wf K (ga K "Action") "classmethod" "of") = true
  nm1 : He5.wrapB K (ga K "Action") "classmethod" "classmethod.__get__" "named" = true
  nm2 : PySem.W.fnIn K (He5.wf K (ga K "Action") "classmethod" "named") = true
theorem exZ {K : PySem.W.Frag} (h : exB K = true) : ExZ K := by
  unfold exB at h
  obtain ⟨a1, h⟩ := ba h
  obtain ⟨a2, h⟩ := ba h
  obtain ⟨a3, h⟩ := ba h
  obtain ⟨a4, h⟩ := ba h
  obtain ⟨a5, h⟩ := ba h
  obtain ⟨a6, h⟩ := ba h
  obtain ⟨a7, h⟩ := ba h
  obtain ⟨a8, h⟩ := ba h
  obtain ⟨a9, h⟩ := ba h
  obtain ⟨b1, h⟩ := ba h
  obtain ⟨b2, h⟩ := ba h
  obtain ⟨b3, h⟩ := ba h
  obtain ⟨b4, h⟩ := ba h
  obtain ⟨b5, h⟩ := ba h
  obtain ⟨b6, h⟩ := ba h
  obtain ⟨b7, h⟩ := ba h
  obtain ⟨b8, h⟩ := ba h
  obtain ⟨b9, h⟩ := ba h
  obtain ⟨c1, h⟩ := ba h
  obtain ⟨c2, h⟩ := ba h
  obtain ⟨c3, h⟩ := ba h
  obtain ⟨c4, h⟩ := ba h
  obtain ⟨c5, h⟩ := ba h
  obtain ⟨c6, c7⟩ := ba h
  exact ⟨fun t ht => List.all_eq_true.mp a1 t ht, fun t ht => ba (List.all_eq_true.mp a2 t ht), a3, a4, a5, a6, a7, fun t ht => List.all_eq_true.mp a8 t ht, a9, b1, b2, b3, b4, b5, b6, b7, b8, b9, c1, c2, eqO_ok c3, c4, c5, c6, c7⟩
theorem TX.e {w : World} {K : PySem.W.Frag} {mg : Str → Option Value} (T : TX w K mg) : ExZ K := exZ T.says.ex
section
variable {w : World} {K : PySem.W.Frag} {mg : Str → Option Value} {H : Hp}
/-- a dict of the top at a text -/
theorem TX.kdct (T : TX w K mg) (i : Nat) {t : Tab'} (h : tabs[i]? = some t := by rfl) {z : Str} {u : Value} {v : V} (e : PySem.W.nsIn K (t.1 K) z = some (some u)) (r : RelV v u) : KDct K w (t.1 K) z v := by
  obtain ⟨es, n, D⟩ := T.says.tab i h
  exact ⟨es, n, u, D.at_, D.lit, e, r⟩
theorem intB_ok {x b : Str} {i : Int} (h : intB K x b i = true) : ∃ t, PySem.W.nsIn K (ga K x) b = some (some (.int i t)) := by
  unfold intB at h
  split at h
  · rename_i j t e
    rw [of_decide_eq_true h] at e
    exact ⟨t, e⟩
  · cases h
theorem TX.kind (T : TX w K mg) {i : Nat} (h : i < 24) : SqT K H (kiAd K i) ((kinds.getD i []).map V.int) := tupA_ok (T.e.kind i (List.mem_range.mpr h)) H
theorem TX.kindsT (T : TX w K mg) : SqT K H (ga K "KINDS") ((List.range 24).map fun i => V.ref (kiAd K i)) := tupA_ok T.e.kindsT H
end
/-! ### readings by name -/
abbrev rLenQ (K : PySem.W.Frag) : List V → Hp → VK → Prop := fun xs H Q => ∃ p ys, xs = [V.ref p] ∧ (SqL K H p ys ∨ SqT K H p ys) ∧ Q (.int ys.length) H
abbrev rTupOf (K : PySem.W.Frag) : List V → Hp → VK → Prop := fun xs H Q => ∃ p ys, xs = [V.ref p] ∧ ((SqL K H p ys ∧ ∀ l, H l = none → Q (.ref l) (upd H l (.tup ys))) ∨ (SqT K H p ys ∧ Q (.ref p) H))
end Sq

set_option Elab.async false
set_option linter.all false
set_option maxRecDepth 100000
set_option maxHeartbeats 4000000
/-! ## The plain data: loops, deeds, programs -/
namespace Sq
open PySem PySem.Spec PyProof.Rows L2 He
/-! ### bounds and loops -/
inductive Bd where | zero | n | half | up | i | i1 | ni1 | ni deriving DecidableEq
namespace Bd
def txt : Bd → Str | zero => "0" | n => "n" | half => "n//2" | up => "(n+1)//2" | i => "i" | i1 => "i+1" | ni1 => "n-i-1" | ni => "n-i"
def base : Bd → Str | zero => "0" | n => "n" | half => "n//2" | up => "(n+1)//2" | i => "i" | i1 => "i" | ni1 => "n-i" | ni => "n-i"
def step : Bd → Int | i1 => 1 | ni1 => -1 | _ => 0
def outer : Bd → Bool | zero => true | n => true | half => true | up => true | _ => false
def val (b : Bd) (m j : Int) : Int := match b with | zero => 0 | n => m | half => m / 2 | up => (m + 1) / 2 | i => j | i1 => j + 1 | ni1 => m - j - 1 | ni => m - j
end Bd
structure Lp where
  lo : Bd
  hi : Bd
  down : Bool
  deriving DecidableEq
def Lp.txt (l : Lp) : Str := ⟨l.lo.txt.cps ++ (" to " : Str).cps ++ l.hi.txt.cps ++ (if l.down then (" down" : Str).cps else #[])⟩
def Lp.words (l : Lp) : List Str := [l.lo.txt, "to", l.hi.txt] ++ (if l.down then [("down" : Str)] else [])
def lps : List Lp := [⟨.zero, .half, false⟩, ⟨.i, .ni1, false⟩, ⟨.zero, .up, false⟩, ⟨.zero, .n, false⟩, ⟨.i, .ni, false⟩, ⟨.zero, .half, true⟩, ⟨.i, .ni1, true⟩, ⟨.i1, .n, false⟩, ⟨.zero, .i, false⟩, ⟨.zero, .ni1, false⟩]
def Lp.outer (l : Lp) : Bool := l.lo.outer && l.hi.outer
/-- the first number, the number behind the last one -/
def Lp.first (l : Lp) (n i : Int) : Int := l.lo.val n i
def Lp.behind (l : Lp) (n i : Int) : Int := if l.hi.val n i > l.lo.val n i then l.hi.val n i else l.lo.val n i
def Lp.has (l : Lp) (n i k : Int) : Bool := decide (l.first n i ≤ k) && decide (k < l.behind n i)
theorem lps_split : ∀ l ∈ lps, Txt.split l.txt " " = l.words := by decide +kernel
theorem lps_down : ∀ l ∈ lps, Txt.endswith l.txt " down" = l.down := by decide +kernel
theorem lps_len : ∀ l ∈ lps, l.txt.length ≤ 40 := by decide +kernel
/-! ### places and deeds -/
inductive Nm where | i | j | ni | nj deriving DecidableEq
namespace Nm
def txt : Nm → Str | i => "i" | j => "j" | ni => "~i" | nj => "~j"
def val (x : Nm) (n a b : Int) : Int := match x with | i => a | j => b | ni => n - 1 - a | nj => n - 1 - b
def isJ : Nm → Bool | j => true | nj => true | _ => false
def neg : Nm → Bool | ni => true | nj => true | _ => false
end Nm
theorem nm_j : ∀ x : Nm, Txt.endswith x.txt "j" = x.isJ := by intro x; cases x <;> decide +kernel
theorem nm_n : ∀ x : Nm, Txt.startswith x.txt "~" = x.neg := by intro x; cases x <;> decide +kernel
abbrev Pl : Type := Nm × Nm
def Pl.txt (p : Pl) : Str := ⟨p.1.txt.cps ++ ("," : Str).cps ++ p.2.txt.cps⟩
def Pl.cell (p : Pl) (n a b : Int) : Int × Int := (p.1.val n a b, p.2.val n a b)
def pls : List Pl := [(.i, .j), (.j, .i), (.i, .nj), (.nj, .i), (.ni, .j), (.j, .ni), (.ni, .nj), (.nj, .ni)]
theorem pls_split : ∀ p ∈ pls, Txt.split (Pl.txt p) "," = [p.1.txt, p.2.txt] := by decide +kernel
theorem pls_len : ∀ p ∈ pls, (Pl.txt p).length ≤ 40 := by decide +kernel
theorem pls_txt : pls.map Pl.txt = places := by decide +kernel
structure Dd where
  turn : Bool
  spots : List Pl
  guard : Bool
  deriving DecidableEq
def Dd.word (d : Dd) : Str := if d.turn then "turn" else "swap"
def Dd.gw (d : Dd) : List Str := if d.guard then ["i", "<", "j"] else []
def Dd.txt (d : Dd) : Str := ⟨d.word.cps ++ (d.spots.map fun p => (" " : Str).cps ++ (Pl.txt p).cps).foldl (· ++ ·) #[] ++ (if d.guard then (" if i < j" : Str).cps else #[])⟩
def dds : List Dd := [⟨true, [(.i, .j), (.j, .ni), (.ni, .nj), (.nj, .i)], false⟩, ⟨true, [(.i, .j), (.nj, .i), (.ni, .nj), (.j, .ni)], false⟩, ⟨false, [(.i, .j), (.j, .i)], false⟩, ⟨false, [(.i, .j), (.ni, .j)], false⟩,
  ⟨false, [(.i, .j), (.i, .nj)], false⟩, ⟨false, [(.ni, .nj), (.i, .j)], false⟩, ⟨false, [(.i, .j), (.nj, .ni)], false⟩, ⟨false, [(.i, .j), (.j, .i)], true⟩, ⟨false, [(.i, .nj), (.i, .j)], false⟩]
theorem dds_split : ∀ d ∈ dds, Txt.split d.txt " " = [d.word] ++ d.spots.map Pl.txt ++ (if d.guard then [("if" : Str)] ++ d.gw else []) := by decide +kernel
theorem dds_len : ∀ d ∈ dds, d.txt.length ≤ 100 := by decide +kernel
theorem dds_pls : ∀ d ∈ dds, ∀ p ∈ d.spots, p ∈ pls := by decide +kernel
theorem dds_spots : ∀ d ∈ dds, 2 ≤ d.spots.length ∧ d.spots.length ≤ 4 ∧ (d.turn = true → d.spots.length = 4) ∧ (d.turn = false → d.spots.length = 2) := by decide +kernel
theorem dds_nodup : ∀ d ∈ dds, (d.spots.map Pl.txt).Nodup := by decide +kernel
/-! ### programs -/
structure Ns where
  over : Lp
  below : Lp
  deed : Dd
  deriving DecidableEq
abbrev Pr : Type := List Ns
def wheel : Dd := ⟨true, [(.i, .j), (.j, .ni), (.ni, .nj), (.nj, .i)], false⟩
def back : Dd := ⟨true, [(.i, .j), (.nj, .i), (.ni, .nj), (.j, .ni)], false⟩
def sw (p q : Pl) : Dd := ⟨false, [p, q], false⟩
def l0h : Lp := ⟨.zero, .half, false⟩
def l0u : Lp := ⟨.zero, .up, false⟩
def l0n : Lp := ⟨.zero, .n, false⟩
def lin1 : Lp := ⟨.i, .ni1, false⟩
def prs : List Pr := [[⟨l0h, lin1, wheel⟩], [⟨l0u, l0h, wheel⟩], [⟨l0h, l0u, wheel⟩], [⟨l0h, l0h, wheel⟩], [⟨l0h, ⟨.i, .ni, false⟩, wheel⟩], [⟨⟨.zero, .half, true⟩, ⟨.i, .ni1, true⟩, wheel⟩],
  [⟨l0h, lin1, back⟩], [⟨l0n, ⟨.i1, .n, false⟩, sw (.i, .j) (.j, .i)⟩], [⟨l0n, ⟨.zero, .i, false⟩, sw (.i, .j) (.j, .i)⟩], [⟨l0n, l0n, sw (.i, .j) (.j, .i)⟩],
  [⟨l0h, l0n, sw (.i, .j) (.ni, .j)⟩], [⟨l0u, l0n, sw (.i, .j) (.ni, .j)⟩], [⟨l0n, l0n, sw (.i, .j) (.ni, .j)⟩], [⟨l0n, l0h, sw (.i, .j) (.i, .nj)⟩],
  [⟨l0h, l0n, sw (.ni, .nj) (.i, .j)⟩], [⟨l0u, l0n, sw (.ni, .nj) (.i, .j)⟩], [⟨l0n, ⟨.zero, .ni1, false⟩, sw (.i, .j) (.nj, .ni)⟩],
  [⟨l0n, l0n, ⟨false, [(.i, .j), (.j, .i)], true⟩⟩, ⟨l0n, l0h, sw (.i, .nj) (.i, .j)⟩]]
theorem prs_ok : ∀ p ∈ prs, ∀ s ∈ p, s.over ∈ lps ∧ s.below ∈ lps ∧ s.deed ∈ dds ∧ s.over.outer = true := by decide +kernel
end Sq

set_option Elab.async false
set_option linter.all false
set_option maxRecDepth 100000
set_option maxHeartbeats 4000000
/-! ## len(set(xs)), xs a list of different texts (turned from the layer's rule for at most one text) -/
namespace Sq
open PySem PySem.Spec PyProof.Rows L2 He
section
variable {prog : Program} {w : World} {A : Around} {R : Result → Shared → Prop} {I : Addr} {fp wr : List Addr} {G : Array GenState → Array GenState → Prop} {n : Nat} {P : Nat → Value → Prop} {St : Nat → Shared → Prop}
theorem loopStrN (W : WalksS prog w A.in1 I fp wr G n P St) (S : Addr) (hSf : S ∉ fp) (xs : List Str) (hsz : xs.length = n) (hnd : xs.Nodup) (hn1 : n + 1 < scanBound)
    (hval : ∀ i v, P i v → ∃ t, v = .str (xs.getD i Str.empty) t) :
    ∀ (k i : Nat) (s : Shared), n - i = k → i ≤ n → St i s →
      s.heap.SetOf (PySem.strKind prog w) S (fun k' => (xs.take i).any (· == k')) i →
      (∀ s', Moved (S :: wr) G s s' → s'.heap.SetOf (PySem.strKind prog w) S (fun k' => (xs.take n).any (· == k')) n → R (.ok (.ret .none)) s') →
      codeAny (model prog w) A (.builtin "set.update.loop" ⟨[.ref S, .ref I], []⟩) R s := by
  have hSw : S ∉ wr := fun h => hSf (W.sub _ h)
  have hsub : ∀ b ∈ wr, b ∈ S :: wr := fun b hb => List.mem_cons_of_mem _ hb
  intro k
  induction k with
  | zero =>
    intro i s hk hi hst hS hR
    have hin : i = n := by omega
    subst hin
    refine codeAny_builtin PyProof.Rows.F.entry_set_update_loop ?_
    rw [Around.under_plainId PyProof.Rows.F.plain_set_update_loop _]
    show wpAny _ A.in1 (pyNext (.ref I) >>= _) _ _ s
    refine wpAny_bind (W.done s _ _ hst fun s' hm => ?_)
    show wpAny _ A.in1 (ret Value.none) _ _ s'
    exact wpAny_pure (hR s' (hm.mono hsub) (by
      obtain ⟨o, es, ep, t, ho, rest⟩ := hS
      exact ⟨o, es, ep, t, hm.heap S _ hSw ho, rest⟩))
  | succ k ih =>
    intro i s hk hi hst hS hR
    have hlt : i < n := by omega
    refine codeAny_builtin PyProof.Rows.F.entry_set_update_loop ?_
    rw [Around.under_plainId PyProof.Rows.F.plain_set_update_loop _]
    show wpAny _ A.in1 (pyNext (.ref I) >>= _) _ _ s
    refine wpAny_bind (W.item i s _ _ hlt hst fun v s' hP hst' hm => ?_)
    obtain ⟨t, rfl⟩ := hval i v hP
    have hS' : s'.heap.SetOf (PySem.strKind prog w) S (fun k' => (xs.take i).any (· == k')) i := by
      obtain ⟨o, es, ep, tb, ho, rest⟩ := hS
      exact ⟨o, es, ep, tb, hm.heap S _ hSw ho, rest⟩
    show wpAny _ A.in1 (holding [Value.str (xs.getD i Str.empty) t] (setAdd S (.str (xs.getD i Str.empty) t)) >>= _) _ _ s'
    refine wpAny_bind (wpAny_holding ?_)
    unfold setAdd
    refine wpAny_holding ?_
    refine wpAny_bind ((PySem.strKind prog w).pyHash (k := xs.getD i Str.empty) (strKind_is _ _ _ _) ?_)
    refine wpAny_setAddHashed_of (knd := PySem.strKind prog w) (s := { s' with toks := s'.toks + 1 }) (strKind_is _ _ _ _) rfl hS' (by omega) fun h' hsb hS2 => ?_
    have hSi : h'.SetOf (PySem.strKind prog w) S (fun k' => (xs.take (i + 1)).any (· == k')) (i + 1) := by
      have hx : xs[i]? = some xs[i] := List.getElem?_eq_getElem (by omega)
      have hd : xs.getD i Str.empty = xs[i] := by rw [List.getD_eq_getElem?_getD, hx]; rfl
      have ht : xs.take (i + 1) = xs.take i ++ [xs[i]] := by rw [List.take_succ, hx]; rfl
      have hno : (xs.take i).any (· == xs[i]) = false := by
        cases q : (xs.take i).any (· == xs[i]) with
        | false => rfl
        | true =>
          obtain ⟨x, hm, e⟩ := List.any_eq_true.mp q
          obtain ⟨j, hj, e3⟩ := List.getElem_of_mem hm
          have hji : j < i := by rw [List.length_take] at hj; omega
          have e4 : xs[j] = xs[i] := by
            rw [List.getElem_take] at e3
            exact e3.trans (beq_iff_eq.mp e)
          exact absurd e4 (List.pairwise_iff_getElem.mp hnd j i (by omega) (by omega) hji)
      rw [hd] at hS2
      refine SetOf_congr hS2 (fun k' => ?_) (by rw [hno]; rfl)
      rw [ht, List.any_append]
      by_cases e : k' = xs[i]
      · subst e; simp
      · have hb : (xs[i] == k') = false := by simpa [beq_iff_eq] using (fun h' : xs[i] = k' => e h'.symm)
        simp [hb, e]
    refine wpAny_pure ⟨plainId_quiet PyProof.Rows.F.plain_set_update_loop _, ih (i + 1) _ (by omega) hlt (W.frame _ s' _ _ hst' (Nat.le_succ _) fun b hb o e => ?_) hSi fun s'' hm'' hS'' => ?_⟩
    · rw [hsb.2 b (fun h : b = S => hSf (by rw [← h]; exact hb))]; exact e
    · refine hR s'' (Moved.trans W.gtrans ((hm.mono hsub).then_heap (Nat.le_succ _) fun b o hb e => ?_) hm'') hS''
      rw [hsb.2 b (fun h : b = S => hb (by rw [h]; exact List.mem_cons_self))]; exact e
end

section
variable {prog : Program} {w : World} {A : Around} {E : Value → Shared → Prop} {s : Shared}
set_option maxHeartbeats 3200000 in
theorem call_set_listN {l : Addr} {items : Array Value} {xs : List Str} {Q : Value → Shared → Prop}
    (hh : A.handled = none) (hl : s.heap.IsList l items) (hi : PyProof.Rows.StrsAre items.toList xs) (hnd : xs.Nodup) (hn1 : xs.length + 1 < scanBound)
    (h : ∀ (h' : Heap) (tk : Nat), h'.SetOf (PySem.strKind prog w) s.heap.objs.size (fun k' => (xs.take items.size).any (· == k')) items.size →
      (∀ b o, b < s.heap.objs.size → s.heap.get? b = some o → h'.get? b = some o) → Q (.ref s.heap.objs.size) { s with heap := h', toks := tk }) :
    wpAny (model prog w) A (call (.type "set") [.ref l]) Q E s := by
  obtain ⟨c, tl, hmro⟩ := PySem.F.called_set.mro
  have hmade := PySem.F.called_set.made
  have hsub := PySem.F.called_set.sub
  refine wpAny_call (codeAny_of_tree ?_)
  show wpAny _ _ (callAny (.type "set") _) _ _ _
  refine wpAny_pure ⟨Code.quiet_builtin _ (by decide +kernel), codeAny_builtin PySem.F.entry_type_call ?_⟩
  rw [Around.under_plain (weight_type_call_type "set" [.ref l] []) rfl]
  have h1 := PySem.F.called_set.notType
  have h2 := PySem.F.called_set.canCreate
  have hct := PySem.F.typeCall_set_1 (.ref l)
  repeat (any_goals (first | assumption | wp_step))

  refine codeAny_mono (code_set_new_1 (.ref l) (E := E) (Q₁ := fun obj s₁ => ∃ led : Bool, obj = .ref s.heap.objs.size ∧ s₁ = { s with heap := s.heap.push { cls := .type "set", dict := none, data := .set #[] 0 (.fresh 0 0 led) } }) fun led => ⟨led, rfl, rfl⟩) fun r s₁ hr => ?_
  cases r with
  | error e => exact hr
  | ok fl =>
    cases fl with
    | ret obj =>
      obtain ⟨led, rfl, rfl⟩ := hr
      have hS : (s.heap.push { cls := .type "set", dict := none, data := .set #[] 0 (.fresh 0 0 led) }).get? s.heap.objs.size = some { cls := .type "set", dict := none, data := .set #[] 0 (.fresh 0 0 led) } := Heap.get?_push_size _ rfl
      have hT : Shared.TypeIs { s with heap := s.heap.push { cls := .type "set", dict := none, data := .set #[] 0 (.fresh 0 0 led) } } (.ref s.heap.objs.size) "set" := ⟨_, hS, rfl⟩
      have hli := PySem.F.called_set.init.lookup
      have hbi := PySem.F.called_set.init.bind (.ref s.heap.objs.size)
      repeat (any_goals (first | assumption | wp_step))

      refine codeAny_mono (codeAny_call_builtin (R := wants (fun r s₂ => r = .none ∧ ∃ h' tk, s₂ = { s with heap := h', toks := tk } ∧
          h'.SetOf (PySem.strKind prog w) s.heap.objs.size (fun k' => (xs.take items.size).any (· == k')) items.size ∧
          (∀ b o, b < s.heap.objs.size → s.heap.get? b = some o → h'.get? b = some o)) E) PySem.F.called_set.init.plain PySem.F.entry_set_init (check_set_init_1 hT ?_)) fun r₂ s₂ hr₂ => ?_
      · obtain ⟨ol, hol, hcl, nl, hdl⟩ := hl
        obtain ⟨ocls, odict, odata, oslots⟩ := ol
        simp only at hcl hdl
        subst hcl; subst hdl
        have hol' : (s.heap.push { cls := .type "set", dict := none, data := .set #[] 0 (.fresh 0 0 led) }).get? l = some { cls := .type "list", dict := odict, data := .seq items nl, slots := oslots } := Heap.get?_push_of_some _ hol
        have hsls := PySem.F.sub_list_set
        have hslf := PySem.F.sub_list_frozenset
        have hne : (Value.type "list" == Value.type "dict") = false := by decide
        have hl1 : (s.heap.push { cls := .type "set", dict := none, data := .set #[] 0 (.fresh 0 0 led) }).IsList l items := ⟨_, hol', rfl, nl, rfl⟩
        unfold Builtin.«set.__init__» noKeywords Builtin.Frozenset.updateFrom
        generalize hPI : pyIter = PI
        wp_walk
        subst hPI

        refine wpAny_pyIter_list hl1 ?_
        refine wpAny_bind (wpAny_runValue ?_)
        have hlS : l < s.heap.objs.size := Heap.lt_size hol
        have hh3 : A.in1.in1.in1.handled = none := by simp [hh]
        have hneI : l ≠ (s.heap.push { cls := .type "set", dict := none, data := .set #[] 0 (.fresh 0 0 led) }).objs.size := by
          rw [Heap.size_push]; exact Nat.ne_of_lt (Nat.lt_succ_of_lt hlS)
        have hSf : s.heap.objs.size ∉ [(s.heap.push { cls := .type "set", dict := none, data := .set #[] 0 (.fresh 0 0 led) }).objs.size, l] := by
          rw [Heap.size_push]; simp only [List.mem_cons, List.mem_singleton, List.not_mem_nil, or_false, not_or]
          exact ⟨Nat.ne_of_lt (Nat.lt_succ_self _), Nat.ne_of_gt hlS⟩
        have hsz : xs.length = items.size := by rw [← StrsAre.len_eq hi, Array.length_toList]
        have hval : ∀ (i : Nat) (v : Value), items[i]? = some v → ∃ t, v = .str (xs.getD i Str.empty) t := fun i v hv => SS.strs_at hi i v (by rw [Array.getElem?_toList]; exact hv)
        refine loopStrN ((Walks.list hh3 _ l hneI items).toS) s.heap.objs.size
          hSf xs hsz hnd (by rw [← hsz]; exact hn1) hval (items.size - 0) 0 _ (by omega) (Nat.zero_le _)
          ⟨⟨_, Heap.get?_push_size _ rfl, rfl, rfl⟩, (hl1.push _)⟩ ?hS0 ?hR
        case hS0 =>
          have hget : ((s.heap.push { cls := .type "set", dict := none, data := .set #[] 0 (.fresh 0 0 led) }).push { cls := .type "list_iterator", data := .fields #[.ref l, .int 0 0] }).get? s.heap.objs.size
              = some { cls := .type "set", dict := none, data := .set #[] 0 (.fresh 0 0 led) } := Heap.get?_push_of_some _ hS
          exact PyProof.Rows.SetOf_congr ((PyProof.Rows.setObjOf_fresh (knd := PySem.strKind prog w) led).setOf hget (by unfold scanBound; omega)) (fun _ => rfl) rfl
        case hR =>
          intro s' hm hS'
          obtain ⟨h', g', d', tk', os'⟩ := s'
          have eg : g' = s.gens := hm.gens
          have ed : d' = s.drawn := hm.drawn
          have eo : os' = s.os := hm.os
          subst eg; subst ed; subst eo
          show wpAny _ _ _ _ _ _
          refine wpAny_pure ?_
          show wpAny _ _ (ret Value.none) _ _ _
          refine wpAny_pure ⟨rfl, h', tk', rfl, hS', fun b o hb e => ?_⟩
          have hb1 : b ≠ s.heap.objs.size := Nat.ne_of_lt hb
          have hb2 : b ≠ (s.heap.push { cls := .type "set", dict := none, data := .set #[] 0 (.fresh 0 0 led) }).objs.size := by
            rw [Heap.size_push]; exact Nat.ne_of_lt (Nat.lt_succ_of_lt hb)
          exact hm.heap b o (by simp only [List.mem_cons, List.mem_singleton, List.not_mem_nil, or_false, not_or]; exact ⟨hb1, hb2⟩) (Heap.get?_push_of_some _ (Heap.get?_push_of_some _ e))

      · cases r₂ with
        | error e => exact hr₂
        | ok fl₂ =>
          cases fl₂ with
          | ret r =>
            obtain ⟨rfl, h', tk, rfl, hS', hk'⟩ := hr₂
            repeat (any_goals (first | assumption | wp_step))
            exact h _ _ hS' hk'
          | _ => exact hr₂.elim
    | _ => exact hr.elim

end
section
variable {X : Cx}
def tLenSetN (K : PySem.W.Frag) (ta : TE) : TE := fun σ H Q => ta σ H fun x H1 => ∃ l, ∃ xs : List Str, x = .ref l ∧ SqL K H1 l (xs.map V.str) ∧ xs.Nodup ∧ xs.length + 1 < scanBound ∧ Q (.int xs.length) H1
theorem pe_lenSetN {a : Expr} {ta : TE} {p p2 q pos : Pos} (hc : X.calm = true) (hg : Gl X "len") (hm : X.mg "len" = none) (hg2 : Gl X "set") (hm2 : X.mg "set" = none) (ha : PE X a ta)
    (na : starEach [a] X.env = (false, eval a X.env) :: starEach [] X.env := by rfl) : PE X (.Call (.Name "len" p) [.Call (.Name "set" p2) [a] [] q] [] pos) (tLenSetN X.K ta) := by
  refine ⟨fun pins s σ H Q I h => ?_⟩
  refine Call_ (ld_blt I hg hm boot_len ?_)
  refine PyProof.Rows.callWith_builtin1 (PyProof.Rows.args_cons ?_ rfl) rfl rfl
  refine Call_ (ld_blt I hg2 hm2 boot_set ?_)
  refine PyProof.Rows.callWith_type1 (PyProof.Rows.args_cons (thn (ha.run pins s σ H _ I h) fun v s1 ⟨x, H1, I1, r1, q1⟩ => PyProof.Rows.args_nil ?_) na) na rfl
  obtain ⟨l, xs, rfl, hq, hnd, h1, q1⟩ := q1
  cases r1
  obtain ⟨its, r, pl, hz⟩ := I1.list hq
  have hl : its.toArray.size = xs.length := by rw [List.size_toArray, ← r.length, List.length_map]
  refine call_set_listN (I1.ok.hd hc) pl.isList (by simpa using strsAre_of r) hnd h1 fun h' tk hS hk => ?_
  refine PyProof.Rows.args_nil ?_
  rw [hl] at hS
  obtain ⟨o, es, ep, t, ho, hex, hd, _, _, _, hf, hn⟩ := hS
  have I2 : Inv X pins σ H1 { s1 with heap := h', toks := tk } := I1.kept fun b o e => hk b o (Heap.lt_size e) e
  exact call_len_set ho hex hd hf (by rw [hn]; unfold scanBound at h1; omega) ⟨.int xs.length, H1, I2.tok _, ⟨_, by rw [hn]⟩, q1⟩
end
end Sq

set_option Elab.async false
set_option linter.all false
set_option maxRecDepth 100000
set_option maxHeartbeats 4000000
/-! ## Comprehensions and loops whose turns only add to the heap -/
namespace Sq
open PySem PySem.Spec PyProof.Rows L2 He
/-- tuples stay -/
def SameT (H H' : Hp) : Prop := ∀ b xs, H b = some (.tup xs) → H' b = some (.tup xs)
theorem Same.t {H H' : Hp} (s : Same H H') : SameT H H' := fun b xs e => s b _ e
theorem SameT.trans {H H' H2 : Hp} (a : SameT H H') (b : SameT H' H2) : SameT H H2 := fun c xs e => b c xs (a c xs e)
theorem SameT.updL {H : Hp} {D : Addr} {ys zs : List V} (h : H D = some (.lst ys)) : SameT H (L2.upd H D (.lst zs)) := fun b xs e => by
  have ne : b ≠ D := fun q => by rw [q, h] at e; cases e
  rw [upd_ne ne]
  exact e
theorem SameT.seq {K : PySem.W.Frag} {H H' : Hp} {a : Addr} {xs : List V} (s : SameT H H') (h : SqT K H a xs) (hf : ∀ o, H a ≠ some (.frz o (.tup xs))) : SqT K H' a xs := by
  rcases h with (h | ⟨o, h⟩) | h
  · exact .inl (.inl (s _ _ h))
  · exact absurd h (hf o)
  · exact .inr h
/-- all that stood (but D, that did not) stands -/
theorem Same.updD {H1 H : Hp} {D : Addr} {u : HO} (s : Same H1 H) (hD : H1 D = none) : Same H1 (L2.upd H D u) := fun b v e => by
  rw [upd_ne (ne_of_none e hD)]
  exact s b v e
section
variable {J : It} {n : Nat} {G : Hp → Prop} {Y : Nat → Hp → V → Hp → Prop} {g : TG} {tt : TT} {te : TE} {vs : List Nat} {σ : L2.St} {H1 : Hp} {D : Addr} {Qd : Hp → Prop}
/-- [e for x in it]: what is at place i is told by Rel i -/
theorem lcr (w : Walk J n G Y) (hsz : n ≤ sizeLine) (hD : H1 D = none) (Rel : Nat → V → Hp → Prop) (mono : ∀ i y H H', SameT H H' → Rel i y H → Rel i y H') (hG : ∀ H, Same H1 H → G H)
    (hs : ∀ i x H H' (Q : VK), i < n → Same H1 H → Y i H x H' → (∀ y H2, Same H H2 → Rel i y H2 → Q y H2) → g x (wipe σ vs) H' fun σ2 H2 => wipe σ2 vs = wipe σ vs ∧ te σ2 H2 Q)
    (hd : ∀ H ys, Same H1 H → H D = some (.lst ys) → ys.length = n → (∀ i y, ys[i]? = some y → Rel i y H) → Qd H) :
    ∃ W : Nat → Nat → Hp → Prop, (∃ m, W 0 m (L2.upd H1 D (.lst []))) ∧ ∀ i m H, W i m H →
      (J.stop i H ∧ Qd H) ∨ (J.go i H ∧ ∃ Nx : Hp → Prop, (∀ H', Nx H' → ∃ m', m' < m ∧ W (i + 1) m' H') ∧ ∀ x H', J.yld i H x H' → g x (wipe σ vs) H' fun σ2 H2 => wipe σ2 vs = wipe σ vs ∧ tYes σ2 H2 fun b H3 =>
        if b = true then te σ2 H3 fun y H4 => ∃ acc, H4 D = some (.lst acc) ∧ acc.length < sizeLine ∧ Nx (L2.upd H4 D (.lst (acc ++ [y]))) else Nx H3) := by
  refine lc_it w (tt := tYes) (fun i H => Same H1 H ∧ ∃ ys, H D = some (.lst ys) ∧ ys.length = i ∧ ∀ j y, ys[j]? = some y → Rel j y H)
    ⟨Same.upd (Same.refl H1) hD, [], upd_same, rfl, fun j y e => by simp at e⟩ (fun i H _ p => hG H p.1) (fun i x H H' hi p hy => ?_) (fun H p => ?_)
  · obtain ⟨sa, ys, e, hl, hr⟩ := p
    have q := hs i x H H' (fun y H4 => ∃ acc, H4 D = some (.lst acc) ∧ acc.length < sizeLine ∧ (Same H1 (L2.upd H4 D (.lst (acc ++ [y]))) ∧ ∃ zs, L2.upd H4 D (.lst (acc ++ [y])) D = some (.lst zs) ∧ zs.length = i + 1 ∧ ∀ j z, zs[j]? = some z → Rel j z (L2.upd H4 D (.lst (acc ++ [y]))))) hi sa hy (fun y H4 s4 r => ?_)
    · exact q
    · have e4 := s4 _ _ e
      refine ⟨ys, e4, by omega, Same.updD (sa.trans s4) hD, _, upd_same, by rw [List.length_append, hl]; rfl, fun j z ez => ?_⟩
      have st : SameT H4 (L2.upd H4 D (.lst (ys ++ [y]))) := SameT.updL e4
      by_cases hj : j < ys.length
      · rw [List.getElem?_append_left hj] at ez
        exact mono _ _ _ _ (SameT.trans (Same.t s4) st) (hr j z ez)
      · rw [List.getElem?_append_right (by omega)] at ez
        obtain ⟨k, hk⟩ : ∃ k, k = j - ys.length := ⟨_, rfl⟩
        rw [← hk] at ez
        rcases k with _ | k
        · simp at ez
          subst ez
          have : j = i := by omega
          subst this
          exact mono _ _ _ _ st r
        · simp at ez
  · obtain ⟨sa, ys, e, hl, hr⟩ := p
    exact hd H ys sa e hl hr
/-- [e for x in it]: at place i stands f i -/
theorem lcm (w : Walk J n G Y) (hsz : n ≤ sizeLine) (hD : H1 D = none) (f : Nat → V) (hG : ∀ H, Same H1 H → G H)
    (hs : ∀ i x H H' (Q : VK), i < n → Same H1 H → Y i H x H' → (∀ H2, Same H H2 → Q (f i) H2) → g x (wipe σ vs) H' fun σ2 H2 => wipe σ2 vs = wipe σ vs ∧ te σ2 H2 Q)
    (hd : ∀ H, Same H1 H → H D = some (.lst ((List.range n).map f)) → Qd H) :
    ∃ W : Nat → Nat → Hp → Prop, (∃ m, W 0 m (L2.upd H1 D (.lst []))) ∧ ∀ i m H, W i m H →
      (J.stop i H ∧ Qd H) ∨ (J.go i H ∧ ∃ Nx : Hp → Prop, (∀ H', Nx H' → ∃ m', m' < m ∧ W (i + 1) m' H') ∧ ∀ x H', J.yld i H x H' → g x (wipe σ vs) H' fun σ2 H2 => wipe σ2 vs = wipe σ vs ∧ tYes σ2 H2 fun b H3 =>
        if b = true then te σ2 H3 fun y H4 => ∃ acc, H4 D = some (.lst acc) ∧ acc.length < sizeLine ∧ Nx (L2.upd H4 D (.lst (acc ++ [y]))) else Nx H3) :=
  lcr w hsz hD (fun i y _ => y = f i) (fun _ _ _ _ _ h => h) hG (fun i x H H' Q hi sa hy hq => hs i x H H' Q hi sa hy fun H2 s2 => hq _ H2 s2 rfl) fun H ys sa e hl hr => hd H sa (by
    rw [e]
    congr 2
    refine List.ext_getElem? fun i => ?_
    by_cases h : i < n
    · have e1 : ys[i]? = some ys[i] := List.getElem?_eq_getElem (by omega)
      rw [e1, hr i _ e1]
      simp [h]
    · rw [List.getElem?_eq_none (by omega), List.getElem?_eq_none (by simp; omega)])
/-- [x for x in it if t]: the items v i with p i -/
theorem lcf (w : Walk J n G Y) (hsz : n ≤ sizeLine) (hD : H1 D = none) (v : Nat → V) (p : Nat → Bool) (hG : ∀ H, Same H1 H → G H) (hY : ∀ i H x H', Y i H x H' → H' = H ∧ x = v i)
    (hs : ∀ i H (Q1 : VK) (Q2 : Hp → Prop), i < n → Same H1 H → (∀ H2, Same H H2 → p i = true → Q1 (v i) H2) → (∀ H2, Same H H2 → p i = false → Q2 H2) →
      g (v i) (wipe σ vs) H fun σ2 H2 => wipe σ2 vs = wipe σ vs ∧ tt σ2 H2 fun b H3 => if b = true then te σ2 H3 Q1 else Q2 H3)
    (hd : ∀ H, Same H1 H → H D = some (.lst (((List.range n).filter p).map v)) → Qd H) :
    ∃ W : Nat → Nat → Hp → Prop, (∃ m, W 0 m (L2.upd H1 D (.lst []))) ∧ ∀ i m H, W i m H →
      (J.stop i H ∧ Qd H) ∨ (J.go i H ∧ ∃ Nx : Hp → Prop, (∀ H', Nx H' → ∃ m', m' < m ∧ W (i + 1) m' H') ∧ ∀ x H', J.yld i H x H' → g x (wipe σ vs) H' fun σ2 H2 => wipe σ2 vs = wipe σ vs ∧ tt σ2 H2 fun b H3 =>
        if b = true then te σ2 H3 fun y H4 => ∃ acc, H4 D = some (.lst acc) ∧ acc.length < sizeLine ∧ Nx (L2.upd H4 D (.lst (acc ++ [y]))) else Nx H3) := by
  refine lc_it w (fun i H => Same H1 H ∧ H D = some (.lst (((List.range i).filter p).map v)))
    ⟨Same.upd (Same.refl H1) hD, upd_same⟩ (fun i H _ q => hG H q.1) (fun i x H H' hi q hy => ?_) (fun H q => hd H q.1 q.2)
  obtain ⟨sa, e⟩ := q
  obtain ⟨e1, e2⟩ := hY i H x H' hy
  subst e1 e2
  refine hs i H' _ _ hi sa (fun H2 s2 hp => ?_) (fun H2 s2 hp => ?_)
  · refine ⟨_, s2 _ _ e, ?_, Same.updD (sa.trans s2) hD, ?_⟩
    · have := List.length_filter_le p (List.range i)
      rw [List.length_map]
      rw [List.length_range] at this
      omega
    · rw [upd_same, List.range_succ, List.filter_append, List.map_append]
      simp [hp]
  · refine ⟨sa.trans s2, ?_⟩
    rw [s2 _ _ e, List.range_succ, List.filter_append]
    simp [hp]
end
end Sq

set_option Elab.async false
set_option linter.all false
set_option maxRecDepth 100000
set_option maxHeartbeats 4000000
/-! ## sorted(xs), xs a list of data -/
namespace Sq
open PySem PySem.Spec PyProof.Rows L2 He
/-- sorted(xs): bs the items, each with its data -/
def rSortedD (K : PySem.W.Frag) : List V → Hp → VK → Prop := fun vs H Q => ∃ (a : Addr) (bs : List (V × PyData)), vs = [V.ref a] ∧ SqL K H a (bs.map (·.1)) ∧ (∀ b ∈ bs, Dp K H b.1 b.2) ∧ (∀ b ∈ bs, ∀ c ∈ bs, PySem.W.alike b.2 c.2 = true) ∧
  (∀ b ∈ bs, ∃ x r, b.2 = .tuple (x :: r)) ∧ (∀ b ∈ bs, b.2.depth ≤ 8) ∧ ∀ p, H p = none → Q (.ref p) (L2.upd H p (.lst ((bs.mergeSort (PySem.W.dataLe false Prod.snd)).map (·.1))))
section
variable {X : Cx}
theorem each_of_vals {H : Hp} {pins : List (Addr × Obj)} {σ : L2.St} {s : Shared} (I : Inv X pins σ H s) : ∀ {bs : List (V × PyData)} {us : List Value}, Vals (bs.map (·.1)) us → (∀ b ∈ bs, Dp X.K H b.1 b.2) →
    PySem.W.EachIs (fun u (b : V × PyData) => L2.RelV b.1 u) us bs ∧ PySem.W.EachIs (fun u (b : V × PyData) => ∃ as, Reads s.heap u b.2 as) us bs
  | [], [], _, _ => ⟨.nil, .nil⟩
  | b :: bs, _, .cons r t, h => by
    obtain ⟨e1, e2⟩ := each_of_vals I t fun c hc => h c (List.mem_cons_of_mem _ hc)
    exact ⟨.cons r e1, .cons (Dp.reads I _ _ _ (h b (List.mem_cons_self ..)) r) e2⟩
theorem vals_of_each : ∀ {us : List Value} {bs : List (V × PyData)}, PySem.W.EachIs (fun u (b : V × PyData) => L2.RelV b.1 u) us bs → Vals (bs.map (·.1)) us
  | _, _, .nil => .nil
  | _, _, .cons r t => .cons r (vals_of_each t)
theorem cr_sortedD (hu : X.A.units + 64 < cLine) : CallR X (.builtin "sorted") (rSortedD X.K) := by
  intro pins s σ H vs us Q I r h
  obtain ⟨a, bs, rfl, hs, hd, hal, hk, hdp, q⟩ := h
  obtain ⟨its, rv, hl, hz⟩ := I.list hs
  rw [Vals.ref1 r]
  obtain ⟨e1, e2⟩ := each_of_vals I rv hd
  have hlen : bs.length ≤ sizeLine := by rw [← List.length_map (f := fun b : V × PyData => b.1)]; exact hz
  refine PySem.W.sorted_data (enc := Prod.snd) hl.isList e1 e2 ?_ (.inl fun d hd2 => ?_) hlen (fun b hb => by have := hdp b hb; omega) fun out ho he => ?_
  · intro d hd1 d' hd2
    obtain ⟨b, hb, rfl⟩ := List.mem_map.mp hd1
    obtain ⟨c, hc, rfl⟩ := List.mem_map.mp hd2
    exact hal b hb c hc
  · obtain ⟨b, hb, rfl⟩ := List.mem_map.mp hd2
    exact hk b hb
  · obtain ⟨e, he2⟩ := sortedAll_at s.heap its (List.toArray out)
    have hn : H (s.heap.objs.size + 1) = none := I.hok.fresh (Nat.le_succ _)
    have hz2 : ((bs.mergeSort (PySem.W.dataLe false Prod.snd)).map (·.1)).length ≤ sizeLine := by
      rw [List.length_map, List.length_mergeSort]
      exact hlen
    exact ⟨.ref (s.heap.objs.size + 1), L2.upd H (s.heap.objs.size + 1) (.lst ((bs.mergeSort (PySem.W.dataLe false Prod.snd)).map (·.1))), I.laid (t' := s.toks) (fun b o hb => sortedAll_old hb) (Nat.le_succ _) ⟨hz2, out, e, vals_of_each he, he2⟩, rfl, q _ hn⟩
end
/-- tuples of whole numbers: the order of the lists -/
theorem dataLe_tups {β : Type} (x : β → List Int) : PySem.W.dataLe false (fun b => .tuple ((x b).map .int)) = fun p q => decide (x p ≤ x q) := by
  funext p q
  show (!PySem.W.dataLt (.tuple ((x q).map .int)) (.tuple ((x p).map .int))) = _
  have e : PySem.W.dataLt (.tuple ((x q).map .int)) (.tuple ((x p).map .int)) = PySem.W.rowLt ((x q).map .int) ((x p).map .int) := by
    rw [PySem.W.dataLt_tuple]
    rfl
  rw [e, PySem.W.dataLt_ints]
  by_cases h : x q < x p
  · have h' : ¬ x p ≤ x q := fun r => List.not_lt.mpr r h
    simp [h, h']
  · have h' : x p ≤ x q := List.not_lt.mp h
    simp [h, h']
end Sq

set_option Elab.async false
set_option linter.all false
set_option maxRecDepth 100000
set_option maxHeartbeats 4000000
/-! ## dict(zip(t, l)), t a tuple of tuples, l a list -/
namespace Sq
open PySem PySem.Spec PyProof.Rows L2 He
section
variable {prog : Program} {w : World} {A : Around} {E : Value → Shared → Prop} {s : Shared} {z TI TO T i1 i2 : Addr} {fp1 fp2 : List Addr} {n1 n2 i : Nat} {P1 P2 : Nat → Value → Prop} {St1 St2 : Nat → Heap → Prop} {f : Bool} {oT : Obj}
/-- a zip whose last tuple is still held: its next item -/
theorem zipH_item {Q : Value → Shared → Prop} (S : ZipSep2 z TI TO i1 i2 fp1 fp2) (D1 : Draws prog w A i1 fp1 n1 P1 St1) (D2 : Draws prog w A i2 fp2 n2 P2 St2)
    (hz : PySem.IsZipHeld s.heap z TI TO T f) (hT : s.heap.get? T = some oT) (hTI : IsTupOf2 s.heap TI (.ref i1) (.ref i2)) (st1 : St1 i s.heap) (st2 : St2 i s.heap) (hlt1 : i < n1) (hlt2 : i < n2)
    (hQ : ∀ x1 x2 h' tk, P1 i x1 → P2 i x2 → PySem.IsZipHeld h' z TI TO T true → St1 (i + 1) h' → St2 (i + 1) h' → IsTupOf2 h' s.heap.objs.size x1 x2 → h'.objs.size = s.heap.objs.size + 1 →
      (∀ c o, c ≠ z → c ≠ i1 → c ≠ i2 → s.heap.get? c = some o → h'.get? c = some o) → Q (.ref s.heap.objs.size) { s with heap := h', toks := tk }) :
    wpAny (model prog w) A (Builtin.«zip.__next__» ⟨[.ref z], []⟩) (fun fin s' => ∃ v, fin = .done (.ret v) ∧ Q v s') E s := by
  obtain ⟨hp, g, d, tk0, os⟩ := s
  show wpAny _ _ (field (.ref z) 2 >>= _) _ _ _
  refine wpAny_bind (wpAny_field hz rfl (x := .bool false) rfl ?_)
  show wpAny _ _ (field (.ref z) 3 >>= _) _ _ _
  refine wpAny_bind (wpAny_field hz rfl (x := .ref TI) rfl ?_)
  refine wpAny_bind (wpAny_seqItems hTI rfl ?_)
  show wpAny _ _ (Builtin.SmallTypes.ownedTupleIsFree (.ref z) >>= _) _ _ _
  refine wpAny_bind (PySem.wpAny_tupleHeld_zip hz hT fun h₁ hz₁ hs₁ => ?_)
  replace hs₁ : Heap.SameBut z hp h₁ := hs₁
  simp only [Bool.false_eq_true, if_false]
  refine wpAny_bind ?_
  rw [← Array.forIn_toList]
  simp only [List.forIn_cons, List.forIn_nil]
  refine wpAny_bind (wpAny_bind (wpAny_holding ?_))
  show wpAny _ _ (Builtin.SmallTypes.nextOf (.ref i1) >>= _) _ _ ⟨h₁, g, d, tk0, os⟩
  refine wpAny_bind (D1.item i _ _ _ hlt1 (D1.over st1 hs₁ S.zf1) fun x1 p1 tk1 hx1 sn1 hp1 => wpAny_pure ?_)
  replace hp1 : Heap.SameBut i1 h₁ p1 := hp1
  refine wpAny_pure ?_
  refine wpAny_bind (wpAny_bind (wpAny_holding ?_))
  show wpAny _ _ (Builtin.SmallTypes.nextOf (.ref i2) >>= _) _ _ ⟨p1, g, d, tk1, os⟩
  refine wpAny_bind (D2.item i _ _ _ hlt2 (D2.over (D2.over st2 hs₁ S.zf2) hp1 S.sep1_2) fun x2 p2 tk2 hx2 sn2 hp2 => wpAny_pure ?_)
  replace hp2 : Heap.SameBut i2 p1 p2 := hp2
  refine wpAny_pure (wpAny_pure ?_)
  show wpAny _ _ (newTuple [x1, x2] >>= _) _ _ _
  refine wpAny_bind (wpAny_newTuple ?_)
  have hsz : p2.objs.size = hp.objs.size := by rw [hp2.1, hp1.1, hs₁.1]
  have hzz : PySem.IsZipHeld p2 z TI TO T true := hp2.extBut _ _ S.zi2 (hp1.extBut _ _ S.zi1 hz₁)
  have hk : ∀ c o, c ≠ z → c ≠ i1 → c ≠ i2 → hp.get? c = some o → p2.get? c = some o := fun c o c1 c2 c3 e => hp2.extBut _ _ c3 (hp1.extBut _ _ c2 (hs₁.extBut _ _ c1 e))
  have hj1 : St1 (i + 1) p2 := D1.over sn1 hp2 S.sep2_1
  refine wpAny_pure ⟨_, rfl, ?_⟩
  show Q (.ref p2.objs.size) _
  have hpair : IsTupOf2 (p2.push { cls := .type "tuple", data := .seq #[x1, x2] }) p2.objs.size x1 x2 := Heap.get?_push_size _ rfl
  have hz4 : (p2.push { cls := .type "tuple", data := .seq #[x1, x2] }).objs.size = p2.objs.size + 1 := Heap.size_push ..
  rw [hsz] at hpair hz4 ⊢
  exact hQ x1 x2 _ tk2 hx1 hx2 (Heap.get?_push_of_some _ hzz) (D1.frame _ _ _ hj1 fun b hb o e => Heap.get?_push_of_some _ e) (D2.frame _ _ _ sn2 fun b hb o e => Heap.get?_push_of_some _ e) hpair hz4 fun c o c1 c2 c3 e => Heap.get?_push_of_some _ (hk c o c1 c2 c3 e)
theorem zipH_end {Q : Fin → Shared → Prop} (S : ZipSep2 z TI TO i1 i2 fp1 fp2) (D1 : Draws prog w A i1 fp1 n1 P1 St1) (D2 : Draws prog w A i2 fp2 n2 P2 St2)
    (hz : PySem.IsZipHeld s.heap z TI TO T f) (hT : s.heap.get? T = some oT) (hTI : IsTupOf2 s.heap TI (.ref i1) (.ref i2)) (st1 : St1 i s.heap) (st2 : St2 i s.heap) (hend : i = n1)
    (hE : ∀ h' tk e, (∀ c o, c ≠ z → c ≠ i1 → c ≠ i2 → s.heap.get? c = some o → h'.get? c = some o) → (∃ o, h'.get? e = some o ∧ o.cls = .type "StopIteration") → E (.ref e) { s with heap := h', toks := tk }) :
    wpAny (model prog w) A (Builtin.«zip.__next__» ⟨[.ref z], []⟩) Q E s := by
  obtain ⟨hp, g, d, tk0, os⟩ := s
  subst hend
  show wpAny _ _ (field (.ref z) 2 >>= _) _ _ _
  refine wpAny_bind (wpAny_field hz rfl (x := .bool false) rfl ?_)
  show wpAny _ _ (field (.ref z) 3 >>= _) _ _ _
  refine wpAny_bind (wpAny_field hz rfl (x := .ref TI) rfl ?_)
  refine wpAny_bind (wpAny_seqItems hTI rfl ?_)
  show wpAny _ _ (Builtin.SmallTypes.ownedTupleIsFree (.ref z) >>= _) _ _ _
  refine wpAny_bind (PySem.wpAny_tupleHeld_zip hz hT fun h₁ hz₁ hs₁ => ?_)
  replace hs₁ : Heap.SameBut z hp h₁ := hs₁
  simp only [Bool.false_eq_true, if_false]
  refine wpAny_bind ?_
  rw [← Array.forIn_toList]
  simp only [List.forIn_cons, List.forIn_nil]
  refine wpAny_bind (wpAny_bind (wpAny_holding ?_))
  show wpAny _ _ (Builtin.SmallTypes.nextOf (.ref i1) >>= _) _ _ ⟨h₁, g, d, tk0, os⟩
  refine wpAny_bind (D1.done ⟨h₁, g, d, tk0, os⟩ _ _ (D1.over st1 hs₁ S.zf1) fun q e hq he => ?_)
  replace hq : Heap.ExtBut i1 h₁ q := hq
  exact hE q tk0 e (fun c o c1 c2 _ x => hq _ _ c2 (hs₁.extBut _ _ c1 x)) he
theorem pyNext_zipH_item {Q : Option Value → Shared → Prop} (S : ZipSep2 z TI TO i1 i2 fp1 fp2) (D1 : Draws prog w A.in1 i1 fp1 n1 P1 St1) (D2 : Draws prog w A.in1 i2 fp2 n2 P2 St2)
    (hz : PySem.IsZipHeld s.heap z TI TO T f) (hT : s.heap.get? T = some oT) (hTI : IsTupOf2 s.heap TI (.ref i1) (.ref i2)) (st1 : St1 i s.heap) (st2 : St2 i s.heap) (hlt1 : i < n1) (hlt2 : i < n2)
    (hQ : ∀ x1 x2 h' tk, P1 i x1 → P2 i x2 → PySem.IsZipHeld h' z TI TO T true → St1 (i + 1) h' → St2 (i + 1) h' → IsTupOf2 h' s.heap.objs.size x1 x2 → h'.objs.size = s.heap.objs.size + 1 →
      (∀ c o, c ≠ z → c ≠ i1 → c ≠ i2 → s.heap.get? c = some o → h'.get? c = some o) → Q (some (.ref s.heap.objs.size)) { s with heap := h', toks := tk }) :
    wpAny (model prog w) A (pyNext (.ref z)) Q E s := by
  have hTy : s.TypeIs (.ref z) "zip" := ⟨_, hz, rfl⟩
  unfold pyNext
  exact wpAny_bind (wpAny_attempt (wpAny_callSpecial?_slot (name := Str.ofString "__next__") hTy PySem.F.slot_zip_next
    (wpAny_call_entry PySem.F.slot_zip_next hTy PySem.F.entry_zip_next
      (zipH_item S D1 D2 hz hT hTI st1 st2 hlt1 hlt2 fun x1 x2 h' tk y1 y2 b1 d1 d2 b5 b6 b7 => wpAny_pure (hQ x1 x2 h' tk y1 y2 b1 d1 d2 b5 b6 b7)) (PySem.F.args_zip_next_1 _))))
theorem pyNext_zipH_end {Q : Option Value → Shared → Prop} (S : ZipSep2 z TI TO i1 i2 fp1 fp2) (D1 : Draws prog w A.in1 i1 fp1 n1 P1 St1) (D2 : Draws prog w A.in1 i2 fp2 n2 P2 St2)
    (hz : PySem.IsZipHeld s.heap z TI TO T f) (hT : s.heap.get? T = some oT) (hTI : IsTupOf2 s.heap TI (.ref i1) (.ref i2)) (st1 : St1 i s.heap) (st2 : St2 i s.heap) (hend : i = n1)
    (hQ : ∀ h' tk, (∀ c o, c ≠ z → c ≠ i1 → c ≠ i2 → s.heap.get? c = some o → h'.get? c = some o) → Q none { s with heap := h', toks := tk }) : wpAny (model prog w) A (pyNext (.ref z)) Q E s := by
  have hTy : s.TypeIs (.ref z) "zip" := ⟨_, hz, rfl⟩
  unfold pyNext
  refine wpAny_bind (wpAny_attempt (wpAny_callSpecial?_slot (name := Str.ofString "__next__") hTy PySem.F.slot_zip_next
    (wpAny_call_entry PySem.F.slot_zip_next hTy PySem.F.entry_zip_next (zipH_end S D1 D2 hz hT hTI st1 st2 hend fun h' tk e hk he => ?_) (PySem.F.args_zip_next_1 _))))
  obtain ⟨o, ho, hc⟩ := he
  refine wpAny_bind (wpAny_isInstance (T := "StopIteration") (b := true) ⟨o, ho, hc⟩ isSubtype_stop ?_)
  exact wpAny_pure (hQ _ _ hk)
end
section
variable {prog : Program} {w : World}
theorem pairArg_zip (z TI TO i1 i2 t l : Addr) (S : ZipSep2 z TI TO i1 i2 [i1, t] [i2, l]) (n1 : t ≠ i1) (n2 : l ≠ i2) (xs ys : Array Value) (hn : xs.size = ys.size) :
    PySem.PairArg prog w "zip" z [z, TI, TO, i1, i2, t, l] [z, TO, i1, i2] xs.size (fun i k v => xs[i]? = some k ∧ ys[i]? = some v)
      (fun h => IsZip h z TI TO .none ∧ IsTupOf2 h TI (.ref i1) (.ref i2) ∧ (∃ a b, IsTupOf2 h TO a b) ∧ (h.IsTupleIter i1 t 0 ∧ h.IsTuple t xs) ∧ (h.IsListIter i2 l 0 ∧ h.IsList l ys)) where
  type := fun s ok => ⟨_, ok.1, rfl⟩
  notDict := by decide
  keep := fun h h' ok hk => by
    obtain ⟨hz, hTI, ⟨a, b, hTO⟩, ⟨h1, hl1⟩, h2, hl2⟩ := ok
    exact ⟨hk _ _ hz, hk _ _ hTI, ⟨a, b, hk _ _ hTO⟩, ⟨h1.at fun o e => hk _ o e, hl1.at fun o e => hk _ o e⟩, h2.at fun o e => hk _ o e, hl2.at fun o e => hk _ o e⟩
  there := fun h ok b hb => by
    obtain ⟨hz, hTI, ⟨a, c, hTO⟩, ⟨⟨o1, h1, _⟩, ⟨o3, hl1, _⟩⟩, ⟨o2, h2, _⟩, ⟨o4, hl2, _⟩⟩ := ok
    simp only [List.mem_cons, List.not_mem_nil, or_false] at hb
    rcases hb with rfl | rfl | rfl | rfl | rfl | rfl | rfl
    all_goals first | exact ⟨_, hz⟩ | exact ⟨_, hTI⟩ | exact ⟨_, hTO⟩ | exact ⟨_, h1⟩ | exact ⟨_, h2⟩ | exact ⟨_, hl1⟩ | exact ⟨_, hl2⟩
  sub := fun b hb => by simp at hb ⊢; rcases hb with rfl | rfl | rfl | rfl <;> simp
  noKeys := fun A s Q E hA ok h => PySem.getAttrOr_miss_zip ok.1 rfl rfl rfl PySem.zip_no_keys (by decide +kernel) hA h
  iter := fun A s d Q E hA ok hd hdf h => by
    obtain ⟨hz, hTI, ⟨a, b, hTO⟩, st1, st2⟩ := ok
    simp only [List.mem_cons, List.not_mem_nil, or_false, not_or] at hdf
    obtain ⟨dz, dTI, dTO, di1, di2, dt, dl⟩ := hdf
    have D1 := Draws.tuple (prog := prog) (w := w) (A := A.in1) hA i1 t n1 xs
    have D2 := Draws.list (prog := prog) (w := w) (A := A.in1) hA i2 l n2 ys
    refine wpAny_pyIter_zip hz (h z [z, TO, i1, i2] (fun i h => IsTupOf2 h TI (.ref i1) (.ref i2) ∧ (h.IsTupleIter i1 t i ∧ h.IsTuple t xs) ∧ (h.IsListIter i2 l i ∧ h.IsList l ys) ∧
      ((IsZip h z TI TO .none ∧ ∃ a b, IsTupOf2 h TO a b) ∨ ∃ T f oT, PySem.IsZipHeld h z TI TO T f ∧ h.get? T = some oT ∧ T ≠ z ∧ T ≠ i1 ∧ T ≠ i2 ∧ T ≠ d)) s.heap s.toks ?_
      ⟨hTI, st1, st2, .inl ⟨hz, a, b, hTO⟩⟩ (fun _ _ e => e) fun b hb => .inl hb)
    exact {
      off := fun hm => by
        simp only [List.mem_cons, List.not_mem_nil, or_false] at hm
        rcases hm with e | e | e | e
        · exact dz e
        · exact dTO e
        · exact di1 e
        · exact di2 e
      frame := fun i h₁ h₂ st hk => by
        obtain ⟨hTI, st1, st2, hz⟩ := st
        refine ⟨hk _ _ (Ne.symm dTI) hTI, D1.frame i h₁ h₂ st1 fun b hb o e => hk b o ?_ e, D2.frame i h₁ h₂ st2 fun b hb o e => hk b o ?_ e, ?_⟩
        · simp only [List.mem_cons, List.not_mem_nil, or_false] at hb
          rcases hb with rfl | rfl
          · exact Ne.symm di1
          · exact Ne.symm dt
        · simp only [List.mem_cons, List.not_mem_nil, or_false] at hb
          rcases hb with rfl | rfl
          · exact Ne.symm di2
          · exact Ne.symm dl
        · rcases hz with ⟨hz, a, b, hTO⟩ | ⟨T, f, oT, hz, hT, r1, r2, r3, r4⟩
          · exact .inl ⟨hk _ _ (Ne.symm dz) hz, a, b, hk _ _ (Ne.symm dTO) hTO⟩
          · exact .inr ⟨T, f, oT, hk _ _ (Ne.symm dz) hz, hk _ _ r4 hT, r1, r2, r3, r4⟩
      item := fun i s₁ Q₁ E₁ hi st hds hQ => by
        obtain ⟨hTI, st1, st2, hz⟩ := st
        have lt : ∀ {c o}, s₁.heap.get? c = some o → s₁.heap.objs.size ≠ c := fun e => Nat.ne_of_gt (Heap.lt_size e)
        have m1 : s₁.heap.objs.size ≠ i1 := let ⟨_, e, _⟩ := st1.1; lt e
        have m2 : s₁.heap.objs.size ≠ i2 := let ⟨_, e, _⟩ := st2.1; lt e
        rcases hz with ⟨hz, a, b, hTO⟩ | ⟨T, f, oT, hz, hT, r1, r2, r3, r4⟩
        · refine wpAny_pyNext_zipD2_item S D1 D2 hz hTI hTO st1 st2 hi (by rw [← hn]; exact hi) fun x1 x2 h' tk y1 y2 b1 b2 d1 d2 b5 b6 hk => ?_
          exact hQ s₁.heap.objs.size _ _ h' tk ⟨y1, y2⟩ (.inl ⟨_, b5, rfl, _, rfl⟩)
            ⟨hk _ _ S.TIz S.TITO S.TIi1 S.TIi2 hTI, d1, d2, .inr ⟨s₁.heap.objs.size, false, _, b1, b5, lt hz, m1, m2, Nat.ne_of_gt hds⟩⟩
            fun c o hc e => hk c o (fun x => hc (by simp [x])) (fun x => hc (by simp [x])) (fun x => hc (by simp [x])) (fun x => hc (by simp [x])) e
        · refine pyNext_zipH_item S D1 D2 hz hT hTI st1 st2 hi (by rw [← hn]; exact hi) fun x1 x2 h' tk y1 y2 b1 d1 d2 b5 b6 hk => ?_
          exact hQ s₁.heap.objs.size _ _ h' tk ⟨y1, y2⟩ (.inl ⟨_, b5, rfl, _, rfl⟩)
            ⟨hk _ _ S.TIz S.TIi1 S.TIi2 hTI, d1, d2, .inr ⟨T, true, oT, b1, hk _ _ r1 r2 r3 hT, r1, r2, r3, r4⟩⟩
            fun c o hc e => hk c o (fun x => hc (by simp [x])) (fun x => hc (by simp [x])) (fun x => hc (by simp [x])) e
      done := fun s₁ Q₁ E₁ st hQ => by
        obtain ⟨hTI, st1, st2, hz⟩ := st
        rcases hz with ⟨hz, a, b, hTO⟩ | ⟨T, f, oT, hz, hT, r1, r2, r3, r4⟩
        · exact wpAny_pyNext_zipD2_end S D1 D2 hz hTI hTO st1 st2 (Nat.le_refl _) (by rw [hn]; exact Nat.le_refl _) (.inl rfl) fun h' tk hk => hQ h' tk fun c o hc e => hk c o (fun x => hc (by simp [x])) (fun x => hc (by simp [x])) (fun x => hc (by simp [x])) (fun x => hc (by simp [x])) e
        · exact pyNext_zipH_end S D1 D2 hz hT hTI st1 st2 rfl fun h' tk hk => hQ h' tk fun c o hc e => hk c o (fun x => hc (by simp [x])) (fun x => hc (by simp [x])) (fun x => hc (by simp [x])) e }
end
theorem storedAll_nodup {κ : Type} [DecidableEq κ] : ∀ (ps acc : List (κ × Addr × Value)), ((acc ++ ps).map (·.1)).Nodup → PySem.storedAllH acc ps = acc ++ ps
  | [], acc, _ => by rw [List.append_nil]; rfl
  | p :: ps, acc, h => by
    have hn : PySem.atKey acc p.1 = none := by
      unfold PySem.atKey
      rw [Option.map_eq_none_iff, List.find?_eq_none]
      intro x hx e
      have e1 : x.1 = p.1 := of_decide_eq_true e
      rw [List.map_append, List.nodup_append] at h
      exact h.2.2 x.1 (List.mem_map_of_mem hx) p.1 (by simp) e1
    show PySem.storedAllH (PySem.storedH acc p.1 p.2.1 p.2.2) ps = _
    rw [PySem.storedH_new hn]
    have := storedAll_nodup ps (acc ++ [(p.1, p.2.1, p.2.2)]) (by simpa using h)
    rw [this]
    simp
theorem zip_paired {H : Hp} : ∀ {ks : List (Addr × List Key)} {vs : List V} {us : List Value}, Vals vs us → ks.length = vs.length → (∀ k ∈ ks, H k.1 = some (.tup (k.2.map kV))) →
    Paired (fun (p : List Key × V) (q : List Key × Addr × Value) => p.1 = q.1 ∧ H q.2.1 = some (.tup (p.1.map kV)) ∧ L2.RelV p.2 q.2.2) ((ks.map (·.2)).zip vs) ((ks.zip us).map fun q => (q.1.2, q.1.1, q.2))
  | [], _, _, .nil, _, _ => .nil
  | [], _, _, .cons _ _, h, _ => by simp at h
  | _ :: _, _, _, .nil, h, _ => by simp at h
  | k :: ks, _, _, .cons r t, h, hk => .cons ⟨rfl, hk k (List.mem_cons_self ..), r⟩ (zip_paired t (by simpa using h) fun q hq => hk q (List.mem_cons_of_mem _ hq))
/-- dict(zip(t, l)): t a tuple of tuples (the keys, different ones), l a list of as many values -/
def tDictZip (K : PySem.W.Frag) (t : TA) : TE := fun σ H Q => t σ H fun xs H1 => ∃ (a b : Addr) (ks : List (Addr × List Key)) (vs : List V), xs = [V.ref a, V.ref b] ∧ SqT K H1 a (ks.map fun k => V.ref k.1) ∧ (∀ k ∈ ks, H1 k.1 = some (.tup (k.2.map kV))) ∧
  SqL K H1 b vs ∧ ks.length = vs.length ∧ (ks.map (·.2)).Nodup ∧ ∀ p, H1 p = none → Q (.ref p) (L2.upd H1 p (.dT ((ks.map (·.2)).zip vs)))
section
variable {X : Cx} {a b : Expr} {t : TA} {p p2 q pos : Pos}
theorem pe_dictZip (hc : X.calm = true) (hu : X.A.units + 64 < cLine) (hg : Gl X "dict") (hm : X.mg "dict" = none) (hg2 : Gl X "zip") (hm2 : X.mg "zip" = none) (ha : PA X [a, b] t)
    (he : starEach [a, b] X.env = (false, eval a X.env) :: starEach [b] X.env := by rfl) (hpl : (backTo q (starEach [b] X.env)).any (·.1) = false := by rfl) :
    PE X (.Call (.Name "dict" p) [.Call (.Name "zip" p2) [a, b] [] q] [] pos) (tDictZip X.K t) := by
  refine ⟨fun pins s σ H Q I h => ?_⟩
  refine Call_ (ld_blt I hg hm PyProof.Rows.boot_dict ?_)
  refine PyProof.Rows.callWith_type1 (PyProof.Rows.args_cons ?_ rfl) rfl rfl
  refine Call_ (ld_blt I hg2 hm2 PyProof.Rows.boot_zip ?_)
  refine PyProof.Rows.callWith_type1 (thn (ha.run q pins s σ H _ I h) fun us s1 ⟨xs, H1, I1, r1, q1⟩ => ?_) he hpl
  obtain ⟨ad, bd, ks, vs, rfl, ht, hk, hl, hlen, hnd, qf⟩ := q1
  obtain ⟨u1, u2, rfl, e1, e2⟩ := vals2 r1
  cases e1
  cases e2
  obtain ⟨its, rt, pt, zt⟩ := I1.tuple ht
  obtain ⟨jts, rl, pl, zl⟩ := I1.list hl
  have hits : its = ks.map fun k => Value.ref k.1 := by
    have : ∀ {ks : List (Addr × List Key)} {us : List Value}, Vals (ks.map fun p => V.ref p.1) us → us = ks.map fun p => Value.ref p.1 := by
      intro ks
      induction ks with
      | nil => intro us r; cases r; rfl
      | cons k ks ih =>
        intro us r
        cases r with
        | cons r t => cases r; rw [ih t]; rfl
    exact this rt
  have ljts : jts.length = vs.length := rl.length.symm
  have lits : its.length = ks.length := by rw [hits, List.length_map]
  have hzl : ks.length ≤ sizeLine := by
    rw [List.length_map] at zt
    exact zt
  have lta : ad < s1.heap.objs.size := pt.lt
  have ltb : bd < s1.heap.objs.size := by
    obtain ⟨o, ho, _⟩ := pl.isList
    exact Heap.lt_size ho
  refine zip_begins2 (begins_tuple ad its.toArray) (begins_list bd jts.toArray) (show s1.heap.IsTuple ad its.toArray from pt) pl.isList fun h1 hz hTI hTO g1 g2 hsz hkeep => ?_
  refine PyProof.Rows.args_nil ?_
  have S : ZipSep2 (s1.heap.objs.size + 4) (s1.heap.objs.size + 2) (s1.heap.objs.size + 3) s1.heap.objs.size (s1.heap.objs.size + 1) [s1.heap.objs.size, ad] [s1.heap.objs.size + 1, bd] := by
    have ga (k : Nat) : s1.heap.objs.size + k ≠ ad := Nat.ne_of_gt (Nat.lt_of_lt_of_le lta (Nat.le_add_right _ _))
    have gb (k : Nat) : s1.heap.objs.size + k ≠ bd := Nat.ne_of_gt (Nat.lt_of_lt_of_le ltb (Nat.le_add_right _ _))
    have ga0 : s1.heap.objs.size ≠ ad := Nat.ne_of_gt lta
    have gb0 : s1.heap.objs.size ≠ bd := Nat.ne_of_gt ltb
    constructor <;> simp [ga, gb, ga0, gb0]
  have P := pairArg_zip (prog := X.prog) (w := X.w) (s1.heap.objs.size + 4) (s1.heap.objs.size + 2) (s1.heap.objs.size + 3) s1.heap.objs.size (s1.heap.objs.size + 1) ad bd S (Nat.ne_of_lt lta) (Nat.ne_of_lt (Nat.lt_succ_of_lt ltb)) its.toArray jts.toArray (by simp [lits, ljts, hlen])
  have notin {b : Addr} (lt : b < s1.heap.objs.size) : b ∉ [s1.heap.objs.size + 4, s1.heap.objs.size + 3, s1.heap.objs.size, s1.heap.objs.size + 1] := by
    have gb (k : Nat) : b ≠ s1.heap.objs.size + k := Nat.ne_of_lt (Nat.lt_of_lt_of_le lt (Nat.le_add_right _ _))
    have gb0 : b ≠ s1.heap.objs.size := Nat.ne_of_lt lt
    simp [gb, gb0]
  have keys : ∀ h', (∀ b o, b < s1.heap.objs.size → s1.heap.get? b = some o → h'.get? b = some o) → ∀ k ∈ ks, (tupleKind (mixKind X.prog X.w)).is h' k.2 k.1 := fun h' kk k hkm => by
    obtain ⟨o, items, n, y1, y2, y3, y4⟩ := key_of I1.hok (hk k hkm)
    exact ⟨o, items, n, kk _ _ (Heap.lt_size y1) y1, y2, y3, y4⟩
  refine PySem.call_dict_pairsH (knd := tupleKind (mixKind X.prog X.w)) (ps := (ks.zip jts).map fun q => (q.1.2, q.1.1, q.2)) (s := { s1 with heap := h1 }) P (I1.ok.hd hc) (Nat.lt_of_le_of_lt (Nat.le_refl _) (show X.A.in1.in1.units < cLine from ?_))
    ⟨hz, hTI, ⟨_, _, hTO⟩, ⟨⟨_, g1, rfl, rfl⟩, (show s1.heap.IsTuple ad its.toArray from pt).at fun o e => hkeep _ o e⟩, ⟨_, g2, rfl, rfl⟩, pl.isList.at fun o e => hkeep _ o e⟩ ⟨by simp [lits, ljts, hlen], fun i key v r => ?_⟩ (fun h' hk' x hx => ?_) (by simp [lits]; exact hzl) fun h' tk hd' hk' => ?_
  · show X.A.units + 1 + 1 < cLine
    omega
  · obtain ⟨r1, r2⟩ := r
    have r1 : its[i]? = some key := by simpa using r1
    have r2 : jts[i]? = some v := by simpa using r2
    rw [hits, List.getElem?_map] at r1
    obtain ⟨k, hk1, rfl⟩ := Option.map_eq_some_iff.mp r1
    refine ⟨k.2, k.1, ?_, rfl⟩
    rw [List.getElem?_map, (List.getElem?_zip_eq_some (z := (k, v))).mpr ⟨hk1, r2⟩]
    rfl
  · obtain ⟨q, hq, rfl⟩ := List.mem_map.mp hx
    refine keys h' (fun b o lt e => hk' b o (by rw [show ({ s1 with heap := h1 } : Shared).heap.objs.size = s1.heap.objs.size + 5 from hsz]; exact Nat.ne_of_lt (Nat.lt_of_lt_of_le lt (Nat.le_add_right _ _))) (notin lt) (hkeep _ _ e)) q.1 (List.of_mem_zip (a := q.1) (b := q.2) hq).1
  · have hall : ∀ b o, s1.heap.get? b = some o → h'.get? b = some o := fun b o e => hk' b o (notin (Heap.lt_size e)) (hkeep _ _ e)
    have hnp : H1 h1.objs.size = none := I1.hok.fresh (by omega)
    have hps : ((ks.zip jts).map fun q => (q.1.2, q.1.1, q.2)).map (·.1) = ks.map (·.2) := by
      rw [List.map_map]
      have e1 : (ks.zip jts).map Prod.fst = ks := List.map_fst_zip (by omega)
      have := congrArg (List.map fun k : Addr × List Key => k.2) e1
      rw [List.map_map] at this
      exact this
    rw [storedAll_nodup _ [] (by rw [List.nil_append, hps]; exact hnd), List.nil_append] at hd'
    obtain ⟨o, es, ep, d1, d2, d3, d4, d5, d6⟩ := hd'
    refine ⟨.ref h1.objs.size, _, I1.laid (t' := tk) (o := .dT ((ks.map (·.2)).zip vs)) hall (by show s1.heap.objs.size ≤ h1.objs.size; omega) ⟨?_, ?_, _, zip_paired rl hlen fun k hkm => upd_get (hk k hkm) hnp, o, es, ep, d1, d2, d3, d4, d6⟩, rfl, qf _ hnp⟩
    · rw [List.length_zip, List.length_map]
      omega
    · have := I1.big
      refine beq_eq_false_iff_ne.mpr (Nat.ne_of_gt (Nat.lt_of_lt_of_le this ?_))
      show s1.heap.objs.size ≤ h1.objs.size
      omega
end
end Sq

set_option Elab.async false
set_option linter.all false
set_option maxRecDepth 100000
set_option maxHeartbeats 4000000
/-! ## for i, x in enumerate(t), t a tuple (the layer has lists alone) -/
namespace Sq
open PySem PySem.Spec PyProof.Rows L2 He
theorem meets_enumT (l : Addr) (items : Array Value) :
    Meets (Builtin.«enumerate.__new__» ⟨[.type "enumerate", .ref l], []⟩) (fun _ R s => s.heap.IsTuple l items ∧
      R (.ok (.ret (.ref (s.heap.push { cls := .type "tuple_iterator", data := .fields #[.ref l, .int 0 0] }).objs.size)))
        { s with heap := (s.heap.push { cls := .type "tuple_iterator", data := .fields #[.ref l, .int 0 0] }).push { cls := .type "enumerate", data := .fields #[.none, .bool false, .ref s.heap.objs.size, rawInt 0, .none, .none] } }) :=
  .of_wp fun prog w A R s h => by
    obtain ⟨hp, g, d, tk, os⟩ := s
    obtain ⟨hl, h⟩ := h
    have hsub := sub_enumerate
    have q1 : ∀ {A' : Around} {E : Value → Shared → Prop} {Q : Value → Shared → Prop}, Q (.ref hp.objs.size) ⟨hp.push { cls := .type "tuple_iterator", data := .fields #[.ref l, .int 0 0] }, g, d, tk, os⟩ → wpAny (model prog w) A' (pyIter (.ref l)) Q E ⟨hp, g, d, tk, os⟩ :=
      fun q => (begins_tuple l items).iter prog w _ _ ⟨hp, g, d, tk, os⟩ _ hl q
    wp_walk
    refine wpAny_stack_any fun st => wpAny_pure ?_
    split
    · rename_i c _ _ _ _ _
      cases (c == Value.type "enumerate")
      · wp_walk using q1
        exact ⟨_, rfl, h⟩
      · wp_walk using q1
        exact ⟨_, rfl, h⟩
    · wp_walk using q1
      exact ⟨_, rfl, h⟩
section
variable {prog : Program} {w : World} {A : Around} {E : Value → Shared → Prop} {s : Shared}
theorem call_enumT {l : Addr} {items : Array Value} {Q : Value → Shared → Prop} (hL : s.heap.IsTuple l items)
    (h : ∀ h', IsEnum h' (s.heap.objs.size + 1) s.heap.objs.size 0 .none → h'.IsTupleIter s.heap.objs.size l 0 → h'.objs.size = s.heap.objs.size + 2 →
      (∀ b o, s.heap.get? b = some o → h'.get? b = some o) → Q (.ref (s.heap.objs.size + 1)) { s with heap := h' }) :
    wpAny (model prog w) A (call (.type "enumerate") [.ref l]) Q E s := by
  refine callType_new PySem.F.called_enumerate (by decide) (PySem.F.typeCall_enumerate_1 _) (PySem.F.newCall_enumerate_1 _) (fun obj => PySem.F.args_object_init_2 obj _) PySem.F.entry_enumerate_new
    (meets_enumT l items) ⟨hL, ?_⟩
  have hz : (s.heap.push { cls := .type "tuple_iterator", data := .fields #[.ref l, .int 0 0] }).objs.size = s.heap.objs.size + 1 := Heap.size_push ..
  show _ ∧ _
  rw [hz]
  have he : IsEnum ((s.heap.push { cls := .type "tuple_iterator", data := .fields #[.ref l, .int 0 0] }).push
      { cls := .type "enumerate", data := .fields #[.none, .bool false, .ref s.heap.objs.size, rawInt 0, .none, .none] }) (s.heap.objs.size + 1) s.heap.objs.size 0 .none := by
    have := Heap.get?_push_size (s.heap.push { cls := .type "tuple_iterator", data := .fields #[.ref l, .int 0 0] })
      (o := { cls := .type "enumerate", data := .fields #[.none, .bool false, .ref s.heap.objs.size, rawInt 0, .none, .none] }) rfl
    rw [hz] at this; exact this
  exact ⟨⟨_, he, rfl⟩, h _ he ⟨_, Heap.get?_push_of_some _ (Heap.get?_push_size _ rfl), rfl, rfl⟩ (by rw [Heap.size_push, hz]) fun b o x => Heap.get?_push_of_some _ (Heap.get?_push_of_some _ x)⟩
end
def IteT (K : PySem.W.Frag) (a : Addr) : It :=
  ⟨fun i H => ∃ (xs : List V) (x : V), SqT K H a xs ∧ xs[i]? = some x, fun i H v H' => ∃ T x, v = .ref T ∧ H T = none ∧ H' = L2.upd H T (.tup [.int (i : Nat), x]) ∧ ∀ xs, SqT K H a xs → xs[i]? = some x, fun i H => ∃ xs : List V, SqT K H a xs ∧ xs.length ≤ i⟩
theorem turn_enumT {P : Program} {w : World} {K : PySem.W.Frag} {elts : List Expr} {kk : Nat} {tpos : Pos} (a e it : Addr) (hai : a ≠ it) (hae : a ≠ e) :
    Turn P w K (.Tuple elts kk tpos) (IteT K a) [e, it] e (fun i h => (∃ old, IsEnum h e it ((i : Nat) : Int) old) ∧ h.IsTupleIter it a i ∧ e ≠ it) where
  mem := by simp
  obj := fun i h st b hb => by
    obtain ⟨⟨old, he⟩, ⟨o, ho, hc, hd⟩, _⟩ := st
    have e' : b = e ∨ b = it := by simpa using hb
    rcases e' with z | z
    · rw [z]; exact ⟨_, he, fun v q => nomatch q⟩
    · rw [z]; exact ⟨o, ho, fun v q => by rw [hd] at q; cases q⟩
  keep := fun i h h' st k => let ⟨⟨old, he⟩, hi, hne⟩ := st; ⟨⟨old, k e (by simp) _ he⟩, hi.at fun o q => k it (by simp) o q, hne⟩
  item := by
    intro X hP hw hK hc i pins s σ H E I hf st hg
    subst hP hw hK
    obtain ⟨⟨old, he⟩, hit, hne⟩ := st
    obtain ⟨xs, x, hq, hx⟩ := hg
    obtain ⟨its, rv, p, hz⟩ := I.tuple hq
    obtain ⟨u, hu, ru⟩ := rv.get hx
    have hel : e < s.heap.objs.size := Heap.lt_size he
    have hil : it < s.heap.objs.size := by obtain ⟨_, q, _⟩ := hit; exact Heap.lt_size q
    have D := Draws.tuple (prog := X.prog) (w := X.w) (A := X.A.in1) (I.ok.hd hc) it a hai its.toArray
    have hlt : i < its.toArray.size := by
      have := (List.getElem?_eq_some_iff.mp hu).1
      simpa using this
    refine wpAny_pyNext_enum_itemD D he ⟨hit, (show s.heap.IsTuple a its.toArray from p)⟩ hlt hne (by simp [hne, Ne.symm hae]) fun x' h' tk hP' ho st' hT hsz hk => ?_
    have hx' : its[i]? = some x' := by simpa using hP'
    rw [hu] at hx'
    cases hx'
    obtain ⟨hit', _⟩ := st'
    refine ⟨_, rfl, wpAny_letOwnedTupleGo_enum (s := { s with heap := h', toks := tk + 1 }) ho fun h'' he' sb => ?_⟩
    have hT2 : h''.get? s.heap.objs.size = some { cls := .type "tuple", data := .seq #[.int i tk, u] } := (sb.2 _ (Nat.ne_of_gt hel)).trans hT
    have new : ObjOk X.prog X.w (L2.upd H s.heap.objs.size (.tup [.int (i : Nat), x])) h'' s.heap.objs.size (.tup [.int (i : Nat), x]) :=
      ⟨by show 2 ≤ sizeLine; decide, [.int i tk, u], .cons ⟨_, rfl⟩ (.cons ru .nil), ⟨_, hT2, rfl, _, rfl⟩⟩
    have I1 : L2.Inv X pins σ (L2.upd H s.heap.objs.size (.tup [.int (i : Nat), x])) { s with heap := h'', toks := tk + 1 } :=
      I.turnedNew (ch := [e, it]) (fun b ob hb q => (sb.2 b (fun z => hb (by simp [z]))).trans (hk b ob (fun z => hb (by simp [z])) (fun z => hb (by simp [z])) q)) hf (Nat.le_refl _) new
    refine ⟨.ref s.heap.objs.size, _, I1, rfl, ⟨_, x, rfl, I.hok.fresh (Nat.le_refl _), rfl, fun ys hy => by rw [I.tuple_inj hy hq]; exact hx⟩, ⟨⟨u, ?_⟩, hit'.at fun o q => (sb.2 it (Ne.symm hne)).trans q, hne⟩, fun b hb => ?_⟩
    · have e1 : ((i + 1 : Nat) : Int) = (i : Int) + 1 := by omega
      rw [e1]; exact he'
    · have hb' : b < s.heap.objs.size := by
        have e' : b = e ∨ b = it := by simpa using hb
        rcases e' with z | z
        · rw [z]; exact hel
        · rw [z]; exact hil
      rw [upd_ne (Nat.ne_of_lt hb')]
      exact (hf b hb).1
  done := by
    intro X hP hw hK hc i pins s σ H E I hf st hg
    subst hP hw hK
    obtain ⟨⟨old, he⟩, hit, hne⟩ := st
    obtain ⟨xs, hq, hx⟩ := hg
    obtain ⟨its, rv, p, hz⟩ := I.tuple hq
    obtain ⟨f0, f1, f2, f3, f4, f5⟩ := hf it (by simp)
    have hl := rv.length
    have hnone : its.toArray[i]? = none := by simp; omega
    have D : Draws X.prog X.w X.A.in1 it [it, a] i (fun _ _ => True) (fun j h => j = i ∧ h.IsTupleIter it a i ∧ h.IsTuple a its.toArray) := {
      live := fun _ _ st => let ⟨_, ⟨o, ho, _⟩, _⟩ := st; ⟨o, ho⟩
      frame := fun _ _ _ st hk => ⟨st.1, st.2.1.at fun o e => hk it (by simp) o e, st.2.2.at fun o e => hk a (by simp) o e⟩
      item := fun j s Q E hj st hQ => by have := st.1; omega
      done := fun s Q E st hE => wpAny_nextOf_tuple_end (I.ok.hd hc) st.2.1 st.2.2 hnone hE }
    exact wpAny_pyNext_enum_endD D he ⟨rfl, hit, (show s.heap.IsTuple a its.toArray from p)⟩ fun h' eb => ⟨rfl, I.turned (t' := s.toks) (fun b o hb q => eb b o hb q) f0 f1 f3 f4 f5⟩
  self := fun A i s Q E st h => let ⟨⟨_, he⟩, _⟩ := st; wpAny_pyIter_enum he h
def iEnumT (K : PySem.W.Frag) (ta : TA) : TI := fun σ H R => ta σ H fun vs H1 => ∃ a xs, vs = [V.ref a] ∧ SqT K H1 a xs ∧ R (IteT K a) H1
theorem pi_enumT {X : Cx} {e : Expr} {ta : TA} {p pos tpos : Pos} {elts : List Expr} {kk : Nat} (hg : Gl X "enumerate") (hm : X.mg "enumerate" = none) (ha : PA X [e] ta) (hs : starEach [e] X.env = [(false, eval e X.env)] := by rfl) :
    PI X (.Tuple elts kk tpos) (.Call (.Name "enumerate" p) [e] [] pos) (iEnumT X.K ta) := by
  refine ⟨fun pins s σ H R I h => ?_⟩
  refine Call_ (ld_blt I hg hm boot_enumerate (PyProof.Rows.callWith_type1 (thn (ha.run pos pins s σ H _ I h) fun us s1 ⟨vs, H1, I1, r1, q1⟩ => ?_) hs rfl))
  obtain ⟨a, xs, ex, hq, q⟩ := q1
  subst ex
  cases r1 with
  | cons r rr =>
    cases rr
    cases r
    obtain ⟨its, rv, p', hz⟩ := I1.tuple hq
    have hlt : a < s1.heap.objs.size := p'.lt
    refine call_enumT (show s1.heap.IsTuple a its.toArray from p') fun h' he hit hsz hk => wpAny_pyIter_enum he ?_
    have I2 : L2.Inv X pins σ H1 { s1 with heap := h' } := I1.kept (t' := s1.toks) hk
    refine ⟨s1.heap.objs.size + 1, [s1.heap.objs.size + 1, s1.heap.objs.size], _, _, H1, rfl, I2, turn_enumT a (s1.heap.objs.size + 1) s1.heap.objs.size (Nat.ne_of_lt hlt) (Nat.ne_of_lt (Nat.lt_succ_of_lt hlt)), ⟨⟨.none, he⟩, hit, Nat.succ_ne_self _⟩, fun b hb => ?_, q⟩
    have e' : b = s1.heap.objs.size + 1 ∨ b = s1.heap.objs.size := by simpa using hb
    have hle : s1.heap.objs.size ≤ b := by
      rcases e' with z | z
      · rw [z]; exact Nat.le_add_right _ _
      · rw [z]; exact Nat.le_refl _
    exact I1.fpOk hle (I1.hok.fresh hle)
theorem walk_enumT {K : PySem.W.Frag} {a : Addr} {xs : List V} : Walk (IteT K a) xs.length (fun H => SqT K H a xs) (YPair (fun i => some (.int (i : Nat))) (fun i => xs[i]?)) := by
  refine ⟨fun i _ hi q => ⟨xs, xs[i], q, by simp [hi]⟩, fun _ q => ⟨xs, q, Nat.le_refl _⟩, fun i H v H' _ q y => ?_⟩
  obtain ⟨T, x, h1, h2, h3, h4⟩ := y
  exact ⟨T, .int (i : Nat), x, h1, h2, h3, rfl, h4 xs q⟩
end Sq

set_option Elab.async false
set_option linter.all false
set_option maxRecDepth 100000
set_option maxHeartbeats 4000000
/-! ## Walks: bounds, places, values -/
namespace Sq
open PySem PySem.Spec PyProof.Rows L2 He
section
variable {P : Program} {w : World} {K : PySem.W.Frag} {mg : Str → Option Value} {base : Heap}
theorem cx_K {CX : CXT} {N : List Str} {q : Str} {sc : Scope} {f : Addr} {cd : Value} {A : Around} {outer : List Env} {s : Shared} {H : Hp} {E : XK} : (cxOf CX P w K mg base N q sc f cd A outer s H E).K = K := rfl
theorem cx_w {CX : CXT} {N : List Str} {q : Str} {sc : Scope} {f : Addr} {cd : Value} {A : Around} {outer : List Env} {s : Shared} {H : Hp} {E : XK} : (cxOf CX P w K mg base N q sc f cd A outer s H E).w = w := rfl
theorem cx_nK {CX : CXT} {N : List Str} {q : Str} {sc : Scope} {f : Addr} {cd : Value} {A : Around} {outer : List Env} {s : Shared} {H : Hp} {E : XK} : (cxOf CX P w K mg base N q sc f cd A outer s H E).nox.K = K := rfl
theorem cx_nw {CX : CXT} {N : List Str} {q : Str} {sc : Scope} {f : Addr} {cd : Value} {A : Around} {outer : List Env} {s : Shared} {H : Hp} {E : XK} : (cxOf CX P w K mg base N q sc f cd A outer s H E).nox.w = w := rfl
theorem k_ii : PySem.W.kitOne K (.type "int") (.type "int") = some true := kit_ty (by decide +kernel)
theorem k_ib : PySem.W.kitOne K (.type "int") (.type "bool") = some false := kit_ty (by decide +kernel)
theorem k_tt : PySem.W.kitOne K (.type "tuple") (.type "tuple") = some true := kit_ty (by decide +kernel)
theorem k_ss : PySem.W.kitOne K (.type "str") (.type "str") = some true := kit_ty (by decide +kernel)
abbrev N_goes_down : List Str := ["loop"]
theorem sc_goes_down : FnScope N_goes_down ["loop"] (defScope (top 7)) := ⟨rfl, rfl, rfl, by decide +kernel, rfl, by decide +kernel, by decide +kernel⟩
def spGoesDown : Sp := fun vs H Q _ => ∃ s : Str, vs = [.str s] ∧ Q (.bl (Txt.endswith s " down")) H
theorem F_goes_down (T : TX w K mg) : Fn P w K mg base 1 "goes_down" spGoesDown := by
  obtain ⟨fd, F⟩ := T.fi 3
  have nd := sc_goes_down.nd
  refine ⟨_, raw0 F sc_goes_down (fun vs H Q E h => ?_) (fun _ _ _ _ _ _ us hl => match us, hl with | [_], _ => rfl) (fun cdv A outer s H vs Q E hr h => ?_), T.g "goes_down", F.kp⟩
  · obtain ⟨s, rfl, _⟩ := h
    rfl
  · obtain ⟨s, rfl, k⟩ := h
    refine ⟨_, (pss_one (ps_ret (pe_m1 PySem.F.slot_str_endswith PySem.F.type_str_endswith mt_endswith (pv 0) (pe_str)))), ?_⟩
    exact ⟨_, rfl, ⟨_, rfl⟩, _, _, rfl, rfl, k⟩
abbrev N_number_of : List Str := ["name", "size", "i", "j", "number"]
theorem sc_number_of : FnScope N_number_of ["name", "size", "i", "j"] (defScope (top 24)) := ⟨rfl, rfl, rfl, by decide +kernel, rfl, by decide +kernel, by decide +kernel⟩
def spNumberOf : Sp := fun vs H Q _ => ∃ (x : Nm) (n a b : Int), vs = [.str x.txt, .int n, .int a, .int b] ∧ Q (.int (x.val n a b)) H
theorem F_number_of (T : TX w K mg) : Fn P w K mg base 1 "number_of" spNumberOf := by
  obtain ⟨fd, F⟩ := T.fi 8
  have nd := sc_number_of.nd
  refine ⟨_, raw0 F sc_number_of (fun vs H Q E h => ?_) (fun _ _ _ _ _ _ us hl => match us, hl with | [_, _, _, _], _ => rfl) (fun cdv A outer s H vs Q E hr h => ?_), T.g "number_of", F.kp⟩
  · obtain ⟨_, _, _, _, rfl, _⟩ := h
    rfl
  · obtain ⟨x, n, a, b, rfl, k⟩ := h
    refine ⟨_, (pss_cons (ps_set (i := 4) nd rfl (Or.inl rfl) (pe_ifExp (pt_val (pe_m1 PySem.F.slot_str_endswith PySem.F.type_str_endswith mt_endswith (pv 0) (pe_str))) (pv 3) (pv 2)))
    (pss_one (ps_ret (pe_ifExp (pt_val (pe_m1 PySem.F.slot_str_startswith PySem.F.type_str_startswith mt_startswith (pv 0) (pe_str))) (pe_op op_sub (pe_op op_sub (pv 1) (pe_int)) (pv 4)) (pv 4))))), ?_⟩
    simp only [tSeq, tRet, tRetN, tAsg, tIf, tIfS, tNext, tTest, tB, cx_K, cx_w, cx_nK, cx_nw, tOp, tUn, tVar, tC, tCons, tNil, tTup, tLst, tF, tM1, tCB, tAnd, tOr, tNot, tAndV, tOrV, tNotV, tChain, tFld, tPart, tNoPart, tSl, rU, rI0, rI, rEq, rNe, rIxD, rIxL, rIxT, rLen, rIsi, rLenQ, rTupOf, rIn, rSlL, rNewStrs, rAppend, rCat, gUnl, tDrop, wipe, List.foldl_cons, List.foldl_nil, StX.tMakeR, sFld, tLenSetN, rIndex, rSorted, rSortedT, rSetOfT, tPar, tPar3, tBM, rSum, rAll, rAny, tNever, gName, gTup, gCons, gNil, L2.start, List.map_cons, List.map_nil, List.length_cons, List.length_nil, List.cons_append, List.nil_append, List.set_cons_zero, List.set_cons_succ, List.getElem?_cons_zero, List.getElem?_cons_succ, Option.some.injEq, V.int.injEq, V.str.injEq, V.bl.injEq, V.ref.injEq, V.ty.injEq, List.cons.injEq, exists_and_left, exists_and_right, exists_eq_left, exists_eq_left', exists_eq, exists_eq', and_true, true_and, exists_const, List.replicate, Nat.sub_self, Nat.reduceAdd, Nat.reduceSub, if_true, if_false, Bool.false_eq_true, ite_true, ite_false, reduceIte]
    rw [nm_j, nm_n]
    cases x <;> exact k
abbrev N_bound_value : List Str := ["bound", "size", "i", "base", "step"]
theorem sc_bound_value : FnScope N_bound_value ["bound", "size", "i"] (defScope (top 4)) := ⟨rfl, rfl, rfl, by decide +kernel, rfl, by decide +kernel, by decide +kernel⟩
theorem bd_out (T : TX w K mg) (b : Bd) (h : b.outer = true) : ∃ a, PySem.W.nsIn K (ga K "OUTER") b.txt = some (some (.ref a)) ∧ ∀ H, SqT K H a [.str b.base, .int b.step] := by
  have q : (b.txt, b.base, b.step) ∈ outTab := by cases b <;> first | decide +kernel | exact absurd h (by decide)
  obtain ⟨h1, h2⟩ := ba (T.e.out _ q)
  exact ⟨_, eqO_ok h1, fun H => tupA_ok h2 H⟩
theorem bd_in (T : TX w K mg) (b : Bd) (h : b.outer = false) : PySem.W.nsIn K (ga K "OUTER") b.txt = some none ∧ ∃ a, PySem.W.nsIn K (ga K "INNER") b.txt = some (some (.ref a)) ∧ ∀ H, SqT K H a [.str b.base, .int b.step] := by
  have q : (b.txt, b.base, b.step) ∈ inTab := by cases b <;> first | decide +kernel | exact absurd h (by decide)
  obtain ⟨h0, h3⟩ := T.e.inn _ q
  obtain ⟨h1, h2⟩ := ba h3
  exact ⟨eqO_ok h0, _, eqO_ok h1, fun H => tupA_ok h2 H⟩
def spBV : Sp := fun vs H Q _ => ∃ (b : Bd) (n i : Int) (iv : V), vs = [.str b.txt, .int n, iv] ∧ (b.outer = false → iv = .int i) ∧ Q (.int (b.val n i)) H
theorem F_bound_value (T : TX w K mg) : Fn P w K mg base 1 "bound_value" spBV := by
  obtain ⟨fd, F⟩ := T.fi 0
  have nd := sc_bound_value.nd
  obtain ⟨eO, nO, hO⟩ := T.says.tab 0
  refine ⟨_, raw0 F sc_bound_value (fun vs H Q E h => ?_) (fun _ _ _ _ _ _ us hl => match us, hl with | [_, _, _], _ => rfl) (fun cdv A outer s H vs Q E hr h => ?_), T.g "bound_value", F.kp⟩
  · obtain ⟨_, _, _, _, rfl, _⟩ := h
    rfl
  · obtain ⟨b, n, i, iv, rfl, hi, k⟩ := h
    refine ⟨_, (pss_cons (ps_asg (pe_ifExp (pt_cmpR (op_in_kd hO) (pv 0) (pe_K rfl (T.g "OUTER")) (by rfl)) (pe_ix ix_kdict (pe_K rfl (T.g "OUTER")) (pv 0) (fun _ _ => rfl)) (pe_ix ix_kdict (pe_K rfl (T.g "INNER")) (pv 0) (fun _ _ => rfl))) (pg_tup (n := 2) rfl (pgs_cons (pg_name (i := 3) nd rfl (Or.inl rfl)) (pgs_cons (pg_name (i := 4) nd rfl (Or.inl rfl)) pgs_nil))))
    (pss_cons (ps_if (pt_cmpR op_eq (pv 3) (pe_str) (nomark _)) (pss_one (ps_ret (pe_op op_add (pv 2) (pv 4)))) pss_nil)
    (pss_cons (ps_if (pt_cmpR op_eq (pv 3) (pe_str) (nomark _)) (pss_one (ps_ret (pe_op op_add (pe_op op_sub (pv 1) (pv 2)) (pv 4)))) pss_nil)
    (pss_cons (ps_if (pt_cmpR op_eq (pv 3) (pe_str) (nomark _)) (pss_one (ps_ret (pe_op op_add (pe_op op_fdivN (pv 1) (pe_int)) (pv 4)))) pss_nil)
    (pss_cons (ps_if (pt_cmpR op_eq (pv 3) (pe_str) (nomark _)) (pss_one (ps_ret (pe_op op_add (pe_op op_fdivN (pe_op op_add (pv 1) (pe_int)) (pe_int)) (pv 4)))) pss_nil)
    (pss_one (ps_ret (pe_ifExp (pt_cmpR op_eq (pv 3) (pe_str) (nomark _)) (pe_op op_add (pv 1) (pv 4)) (pv 4))))))))), ?_⟩
    simp only [tSeq, tRet, tRetN, tAsg, tIf, tIfS, tNext, tTest, tB, cx_K, cx_w, cx_nK, cx_nw, tOp, tUn, tVar, tC, tCons, tNil, tTup, tLst, tF, tM1, tCB, tAnd, tOr, tNot, tAndV, tOrV, tNotV, tChain, tFld, tPart, tNoPart, tSl, rU, rI0, rI, rEq, rNe, rIxD, rIxL, rIxT, rLen, rIsi, rLenQ, rTupOf, rIn, rSlL, rNewStrs, rAppend, rCat, gUnl, tDrop, wipe, List.foldl_cons, List.foldl_nil, StX.tMakeR, sFld, tLenSetN, rIndex, rSorted, rSortedT, rSetOfT, tPar, tPar3, tBM, rSum, rAll, rAny, tNever, gName, gTup, gCons, gNil, L2.start, List.map_cons, List.map_nil, List.length_cons, List.length_nil, List.cons_append, List.nil_append, List.set_cons_zero, List.set_cons_succ, List.getElem?_cons_zero, List.getElem?_cons_succ, Option.some.injEq, V.int.injEq, V.str.injEq, V.bl.injEq, V.ref.injEq, V.ty.injEq, List.cons.injEq, exists_and_left, exists_and_right, exists_eq_left, exists_eq_left', exists_eq, exists_eq', and_true, true_and, exists_const, List.replicate, Nat.sub_self, Nat.reduceAdd, Nat.reduceSub, if_true, if_false, Bool.false_eq_true, ite_true, ite_false, reduceIte]
    cases hb : b.outer with
    | true =>
      obtain ⟨a, e1, e2⟩ := bd_out T b hb
      refine ⟨_, e1, ?_⟩
      rw [if_pos (by rfl)]
      refine ⟨.ref a, T.kdct 0 rfl e1 rfl, _, rfl, _, e2 H, rfl, _, _, rfl, _, _, rfl, rfl, ?_⟩
      have d2 : CDivN n 2 ∧ CDivN (n + 1) 2 := ⟨⟨by decide, by decide⟩, ⟨by decide, by decide⟩⟩
      have f2 : ∀ m : Int, m.fdiv 2 = m / 2 := fun m => Int.fdiv_eq_ediv_of_nonneg m (by decide)
      cases b <;> first
        | exact absurd hb (by decide)
        | (repeat (first | (refine ⟨rfl, ?_⟩; rw [if_neg (by decide +kernel)]) | (refine ⟨rfl, ?_⟩; rw [if_pos (by decide +kernel)])))
      · exact k
      · exact ⟨0, rfl, by rw [Int.add_zero]; exact k⟩
      · exact ⟨d2.1, 0, rfl, by rw [Int.add_zero, f2]; exact k⟩
      · exact ⟨d2.2, 0, rfl, by rw [Int.add_zero, f2]; exact k⟩
    | false =>
      obtain ⟨e0, a, e1, e2⟩ := bd_in T b hb
      refine ⟨_, e0, ?_⟩
      rw [if_neg (by decide)]
      refine ⟨.ref a, T.kdct 1 rfl e1 rfl, _, rfl, _, e2 H, rfl, _, _, rfl, _, _, rfl, rfl, ?_⟩
      have hj := hi hb
      subst hj
      cases b <;> first
        | exact absurd hb (by decide)
        | (repeat (first | (refine ⟨rfl, ?_⟩; rw [if_neg (by decide +kernel)]) | (refine ⟨rfl, ?_⟩; rw [if_pos (by decide +kernel)])))
      · exact ⟨_, rfl, 0, rfl, by rw [Int.add_zero]; exact k⟩
      · exact ⟨_, rfl, 1, rfl, k⟩
      · exact ⟨_, rfl, -1, rfl, k⟩
      · exact ⟨_, rfl, 0, rfl, by rw [Int.add_zero]; exact k⟩
abbrev N_is_bound : List Str := ["word", "inner"]
theorem sc_is_bound : FnScope N_is_bound ["word", "inner"] (defScope (top 5)) := ⟨rfl, rfl, rfl, by decide +kernel, rfl, by decide +kernel, by decide +kernel⟩
def spIsBound : Sp := fun vs H Q _ => ∃ (b : Bd) (inner : Bool), vs = [.str b.txt, .bl inner] ∧ (b.outer = false → inner = true) ∧ Q (.bl true) H
theorem F_is_bound (T : TX w K mg) : Fn P w K mg base 1 "is_bound" spIsBound := by
  obtain ⟨fd, F⟩ := T.fi 1
  have nd := sc_is_bound.nd
  obtain ⟨eO, nO, hO⟩ := T.says.tab 0
  obtain ⟨eI, nI, hI⟩ := T.says.tab 1
  refine ⟨_, raw0 F sc_is_bound (fun vs H Q E h => ?_) (fun _ _ _ _ _ _ us hl => match us, hl with | [_, _], _ => rfl) (fun cdv A outer s H vs Q E hr h => ?_), T.g "is_bound", F.kp⟩
  · obtain ⟨_, _, rfl, _⟩ := h
    rfl
  · obtain ⟨b, inner, rfl, hi, k⟩ := h
    refine ⟨_, (pss_one (ps_ret (pe_or (pe_cmpR (op_in_kd hO) (pv 0) (pe_K rfl (T.g "OUTER")) (by rfl)) (pe_one (pe_and (pv 1) (pe_one (pe_cmpR (op_in_kd hI) (pv 0) (pe_K rfl (T.g "INNER")) (by rfl)))))))), ?_⟩
    simp only [tSeq, tRet, tRetN, tAsg, tIf, tIfS, tNext, tTest, tB, cx_K, cx_w, cx_nK, cx_nw, tOp, tUn, tVar, tC, tCons, tNil, tTup, tLst, tF, tM1, tCB, tAnd, tOr, tNot, tAndV, tOrV, tNotV, tChain, tFld, tPart, tNoPart, tSl, rU, rI0, rI, rEq, rNe, rIxD, rIxL, rIxT, rLen, rIsi, rLenQ, rTupOf, rIn, rSlL, rNewStrs, rAppend, rCat, gUnl, tDrop, wipe, List.foldl_cons, List.foldl_nil, StX.tMakeR, sFld, tLenSetN, rIndex, rSorted, rSortedT, rSetOfT, tPar, tPar3, tBM, rSum, rAll, rAny, tNever, gName, gTup, gCons, gNil, L2.start, List.map_cons, List.map_nil, List.length_cons, List.length_nil, List.cons_append, List.nil_append, List.set_cons_zero, List.set_cons_succ, List.getElem?_cons_zero, List.getElem?_cons_succ, Option.some.injEq, V.int.injEq, V.str.injEq, V.bl.injEq, V.ref.injEq, V.ty.injEq, List.cons.injEq, exists_and_left, exists_and_right, exists_eq_left, exists_eq_left', exists_eq, exists_eq', and_true, true_and, exists_const, List.replicate, Nat.sub_self, Nat.reduceAdd, Nat.reduceSub, if_true, if_false, Bool.false_eq_true, ite_true, ite_false, reduceIte]
    cases hb : b.outer with
    | true =>
      obtain ⟨a, e1, e2⟩ := bd_out T b hb
      refine ⟨_, e1, ?_⟩
      rw [if_pos (by rfl)]
      exact k
    | false =>
      obtain ⟨e0, a, e1, e2⟩ := bd_in T b hb
      refine ⟨_, e0, ?_⟩
      rw [if_neg (by decide), hi hb, if_pos rfl]
      exact ⟨_, e1, k⟩
abbrev N_loop_range : List Str := ["loop", "size", "i", "words", "low"]
theorem sc_loop_range : FnScope N_loop_range ["loop", "size", "i"] (defScope (top 8)) := ⟨rfl, rfl, rfl, by decide +kernel, rfl, by decide +kernel, by decide +kernel⟩
def spLoopRange (K : PySem.W.Frag) : Sp := fun vs H Q _ => ∃ (l : Lp) (n i : Int) (iv : V), vs = [.str l.txt, .int n, iv] ∧ l ∈ lps ∧ (l.outer = false → iv = .int i) ∧ ∀ H' p, Same H H' → H' p = some (.tup [.int (l.first n i), .int (l.behind n i), .bl l.down]) → Q (.ref p) H'
theorem F_loop_range (T : TX w K mg) : Fn P w K mg base 2 "loop_range" (spLoopRange K) := by
  obtain ⟨fd, F⟩ := T.fi 4
  have nd := sc_loop_range.nd
  have F_bound_value := F_bound_value (P := P) (base := base) T
  have F_goes_down := F_goes_down (P := P) (base := base) T
  refine ⟨_, raw0 F sc_loop_range (fun vs H Q E h => ?_) (fun _ _ _ _ _ _ us hl => match us, hl with | [_, _, _], _ => rfl) (fun cdv A outer s H vs Q E hr h => ?_), T.g "loop_range", F.kp⟩
  · obtain ⟨_, _, _, _, rfl, _⟩ := h
    rfl
  · obtain ⟨l, n, i, iv, rfl, hl, hi, k⟩ := h
    refine ⟨_, (pss_cons (ps_set (i := 3) nd rfl (Or.inl rfl) (pe_split (pv 0) (pe_str)))
    (pss_cons (ps_set (i := 4) nd rfl (Or.inl rfl) (pe_f F_bound_value hr (pa_cons (pe_ix ix_list (pv 3) (pe_int) (fun _ _ => rfl)) (pa_cons (pv 1) (pa_cons (pv 2) pa_nil)))))
    (pss_one (ps_ret (pe_tup (pa_cons (pv 4) (pa_cons (pe_callB (call_max2 rfl) (by rfl) (T.z "max") (by decide +kernel) (pa_cons (pv 4) (pa_cons (pe_f F_bound_value hr (pa_cons (pe_ix ix_list (pv 3) (pe_int) (fun _ _ => rfl)) (pa_cons (pv 1) (pa_cons (pv 2) pa_nil)))) pa_nil))) (pa_cons (pe_f F_goes_down hr (pa_cons (pv 0) pa_nil)) pa_nil)))))))), ?_⟩
    simp only [tSeq, tRet, tRetN, tAsg, tIf, tIfS, tNext, tTest, tB, cx_K, cx_w, cx_nK, cx_nw, tOp, tUn, tVar, tC, tCons, tNil, tTup, tLst, tF, tM1, tCB, tAnd, tOr, tNot, tAndV, tOrV, tNotV, tChain, tFld, tPart, tNoPart, tSl, rU, rI0, rI, rEq, rNe, rIxD, rIxL, rIxT, rLen, rIsi, rLenQ, rTupOf, rIn, rSlL, rNewStrs, rAppend, rCat, gUnl, tDrop, wipe, List.foldl_cons, List.foldl_nil, StX.tMakeR, sFld, tLenSetN, rIndex, rSorted, rSortedT, rSetOfT, tPar, tPar3, tBM, rSum, rAll, rAny, tNever, gName, gTup, gCons, gNil, L2.start, List.map_cons, List.map_nil, List.length_cons, List.length_nil, List.cons_append, List.nil_append, List.set_cons_zero, List.set_cons_succ, List.getElem?_cons_zero, List.getElem?_cons_succ, Option.some.injEq, V.int.injEq, V.str.injEq, V.bl.injEq, V.ref.injEq, V.ty.injEq, List.cons.injEq, exists_and_left, exists_and_right, exists_eq_left, exists_eq_left', exists_eq, exists_eq', and_true, true_and, exists_const, List.replicate, Nat.sub_self, Nat.reduceAdd, Nat.reduceSub, if_true, if_false, Bool.false_eq_true, ite_true, ite_false, reduceIte]
    refine ⟨by rfl, by have := lps_len l hl; rw [sizeLine_eq]; omega, fun p hp => ?_⟩
    rw [lps_split l hl]
    have w0 : atI (l.words.map V.str) 0 = some (.str l.lo.txt) := by unfold Lp.words; cases l.down <;> rfl
    have w2 : atI (l.words.map V.str) 2 = some (.str l.hi.txt) := by unfold Lp.words; cases l.down <;> rfl
    have oo : ∀ b : Bool, (b && l.hi.outer) = l.outer → b = l.lo.outer → (l.lo.outer = false → iv = V.int i) ∧ (l.hi.outer = false → iv = V.int i) := fun b e1 e2 => ⟨fun h => hi (by rw [← e1, e2, h]; rfl), fun h => hi (by rw [← e1, h, Bool.and_false])⟩
    obtain ⟨o1, o2⟩ := oo _ rfl rfl
    refine ⟨_, SqL.of upd_same, _, w0, l.lo, n, i, iv, rfl, o1, ?_⟩
    refine ⟨_, SqL.of upd_same, _, w2, l.hi, n, i, iv, rfl, o2, ?_⟩
    refine ⟨_, _, ⟨rfl, rfl⟩, _, rfl, by rw [sizeLine_eq]; omega, fun q hq => ?_⟩
    rw [lps_down l hl]
    exact k _ q (Same.upd (Same.upd (Same.refl H) hp) hq) upd_same
abbrev N_in_loop : List Str := ["loop", "size", "i", "number", "low", "high", "down"]
theorem sc_in_loop : FnScope N_in_loop ["loop", "size", "i", "number"] (defScope (top 9)) := ⟨rfl, rfl, rfl, by decide +kernel, rfl, by decide +kernel, by decide +kernel⟩
def spInLoop : Sp := fun vs H Q _ => ∃ (l : Lp) (n i j : Int) (iv : V), vs = [.str l.txt, .int n, iv, .int j] ∧ l ∈ lps ∧ (l.outer = false → iv = .int i) ∧ ∀ H', Same H H' → Q (.bl (l.has n i j)) H'
theorem F_in_loop (T : TX w K mg) : Fn P w K mg base 3 "in_loop" spInLoop := by
  obtain ⟨fd, F⟩ := T.fi 5
  have nd := sc_in_loop.nd
  have F_loop_range := F_loop_range (P := P) (base := base) T
  refine ⟨_, raw0 F sc_in_loop (fun vs H Q E h => ?_) (fun _ _ _ _ _ _ us hl => match us, hl with | [_, _, _, _], _ => rfl) (fun cdv A outer s H vs Q E hr h => ?_), T.g "in_loop", F.kp⟩
  · obtain ⟨_, _, _, _, _, rfl, _⟩ := h
    rfl
  · obtain ⟨l, n, i, j, iv, rfl, hl, hi, k⟩ := h
    refine ⟨_, (pss_cons (ps_asg (pe_f F_loop_range hr (pa_cons (pv 0) (pa_cons (pv 1) (pa_cons (pv 2) pa_nil)))) (pg_tup (n := 3) rfl (pgs_cons (pg_name (i := 4) nd rfl (Or.inl rfl)) (pgs_cons (pg_name (i := 5) nd rfl (Or.inl rfl)) (pgs_cons (pg_name (i := 6) nd rfl (Or.inl rfl)) pgs_nil)))))
    (pss_one (ps_ret (pe_chain op_le op_lt (pv 4) (pv 3) (pv 5))))), ?_⟩
    simp only [tSeq, tRet, tRetN, tAsg, tIf, tIfS, tNext, tTest, tB, cx_K, cx_w, cx_nK, cx_nw, tOp, tUn, tVar, tC, tCons, tNil, tTup, tLst, tF, tM1, tCB, tAnd, tOr, tNot, tAndV, tOrV, tNotV, tChain, tFld, tPart, tNoPart, tSl, rU, rI0, rI, rEq, rNe, rIxD, rIxL, rIxT, rLen, rIsi, rLenQ, rTupOf, rIn, rSlL, rNewStrs, rAppend, rCat, gUnl, tDrop, wipe, List.foldl_cons, List.foldl_nil, StX.tMakeR, sFld, tLenSetN, rIndex, rSorted, rSortedT, rSetOfT, tPar, tPar3, tBM, rSum, rAll, rAny, tNever, gName, gTup, gCons, gNil, L2.start, List.map_cons, List.map_nil, List.length_cons, List.length_nil, List.cons_append, List.nil_append, List.set_cons_zero, List.set_cons_succ, List.getElem?_cons_zero, List.getElem?_cons_succ, Option.some.injEq, V.int.injEq, V.str.injEq, V.bl.injEq, V.ref.injEq, V.ty.injEq, List.cons.injEq, exists_and_left, exists_and_right, exists_eq_left, exists_eq_left', exists_eq, exists_eq', and_true, true_and, exists_const, List.replicate, Nat.sub_self, Nat.reduceAdd, Nat.reduceSub, if_true, if_false, Bool.false_eq_true, ite_true, ite_false, reduceIte]
    refine ⟨l, n, i, iv, rfl, hl, hi, fun H' p sa e => ?_⟩
    refine ⟨p, rfl, _, .of e, rfl, _, _, rfl, _, _, rfl, _, _, rfl, rfl, _, rfl, ?_⟩
    have k := k H' sa
    unfold Lp.has at k
    cases q : decide (l.first n i ≤ j) with
    | true =>
      rw [q] at k
      exact iteT ⟨_, rfl, k⟩
    | false =>
      rw [q] at k
      exact iteF k
abbrev N_is_integer : List Str := ["value"]
theorem sc_is_integer : FnScope N_is_integer ["value"] (defScope (top 47)) := ⟨rfl, rfl, rfl, by decide +kernel, rfl, by decide +kernel, by decide +kernel⟩
def spIsInteger : Sp := fun vs H Q _ => ∃ n : Int, vs = [.int n] ∧ Q (.bl true) H
theorem F_is_integer (T : TX w K mg) : Fn P w K mg base 1 "is_integer" spIsInteger := by
  obtain ⟨fd, F⟩ := T.fi 12
  have nd := sc_is_integer.nd
  refine ⟨_, raw0 F sc_is_integer (fun vs H Q E h => ?_) (fun _ _ _ _ _ _ us hl => match us, hl with | [_], _ => rfl) (fun cdv A outer s H vs Q E hr h => ?_), T.g "is_integer", F.kp⟩
  · obtain ⟨_, rfl, _⟩ := h
    rfl
  · obtain ⟨n, rfl, k⟩ := h
    refine ⟨_, (pss_one (ps_ret (pe_and (pe_callB call_isi (by rfl) (T.z "isinstance") (by decide +kernel) (pa_cons (pv 0) (pa_cons (pe_ty (n := "int") (by rfl) (T.z "int") (by decide +kernel)) pa_nil))) (pe_one (pe_not (pe_callB call_isi (by rfl) (T.z "isinstance") (by decide +kernel) (pa_cons (pv 0) (pa_cons (pe_ty (n := "bool") (by rfl) (T.z "bool") (by decide +kernel)) pa_nil)))))))), ?_⟩
    simp only [tSeq, tRet, tRetN, tAsg, tIf, tIfS, tNext, tTest, tB, cx_K, cx_w, cx_nK, cx_nw, tOp, tUn, tVar, tC, tCons, tNil, tTup, tLst, tF, tM1, tCB, tAnd, tOr, tNot, tAndV, tOrV, tNotV, tChain, tFld, tPart, tNoPart, tSl, rU, rI0, rI, rEq, rNe, rIxD, rIxL, rIxT, rLen, rIsi, rLenQ, rTupOf, rIn, rSlL, rNewStrs, rAppend, rCat, gUnl, tDrop, wipe, List.foldl_cons, List.foldl_nil, StX.tMakeR, sFld, tLenSetN, rIndex, rSorted, rSortedT, rSetOfT, tPar, tPar3, tBM, rSum, rAll, rAny, tNever, gName, gTup, gCons, gNil, L2.start, List.map_cons, List.map_nil, List.length_cons, List.length_nil, List.cons_append, List.nil_append, List.set_cons_zero, List.set_cons_succ, List.getElem?_cons_zero, List.getElem?_cons_succ, Option.some.injEq, V.int.injEq, V.str.injEq, V.bl.injEq, V.ref.injEq, V.ty.injEq, List.cons.injEq, exists_and_left, exists_and_right, exists_eq_left, exists_eq_left', exists_eq, exists_eq', and_true, true_and, exists_const, List.replicate, Nat.sub_self, Nat.reduceAdd, Nat.reduceSub, if_true, if_false, Bool.false_eq_true, ite_true, ite_false, reduceIte]
    refine ⟨_, _, ⟨rfl, rfl⟩, _, _, .ty _, .base (.int _), _, k_ii, iteT ?_⟩
    exact ⟨_, _, ⟨rfl, rfl⟩, _, _, .ty _, .base (.int _), _, k_ib, k⟩
abbrev N_within : List Str := ["value", "least", "most"]
theorem sc_within : FnScope N_within ["value", "least", "most"] (defScope (top 48)) := ⟨rfl, rfl, rfl, by decide +kernel, rfl, by decide +kernel, by decide +kernel⟩
def spWithin : Sp := fun vs H Q _ => ∃ n a b : Int, vs = [.int n, .int a, .int b] ∧ Q (.bl (decide (a ≤ n) && decide (n ≤ b))) H
theorem F_within (T : TX w K mg) : Fn P w K mg base 2 "within_values" spWithin := by
  obtain ⟨fd, F⟩ := T.fi 13
  have nd := sc_within.nd
  have F_is_integer := F_is_integer (P := P) (base := base) T
  refine ⟨_, raw0 F sc_within (fun vs H Q E h => ?_) (fun _ _ _ _ _ _ us hl => match us, hl with | [_, _, _], _ => rfl) (fun cdv A outer s H vs Q E hr h => ?_), T.g "within_values", F.kp⟩
  · obtain ⟨_, _, _, rfl, _⟩ := h
    rfl
  · obtain ⟨n, a, b, rfl, k⟩ := h
    refine ⟨_, (pss_one (ps_ret (pe_and (pe_f F_is_integer hr (pa_cons (pv 0) pa_nil)) (pe_one (pe_chain op_le op_le (pv 1) (pv 0) (pv 2)))))), ?_⟩
    simp only [tSeq, tRet, tRetN, tAsg, tIf, tIfS, tNext, tTest, tB, cx_K, cx_w, cx_nK, cx_nw, tOp, tUn, tVar, tC, tCons, tNil, tTup, tLst, tF, tM1, tCB, tAnd, tOr, tNot, tAndV, tOrV, tNotV, tChain, tFld, tPart, tNoPart, tSl, rU, rI0, rI, rEq, rNe, rIxD, rIxL, rIxT, rLen, rIsi, rLenQ, rTupOf, rIn, rSlL, rNewStrs, rAppend, rCat, gUnl, tDrop, wipe, List.foldl_cons, List.foldl_nil, StX.tMakeR, sFld, tLenSetN, rIndex, rSorted, rSortedT, rSetOfT, tPar, tPar3, tBM, rSum, rAll, rAny, tNever, gName, gTup, gCons, gNil, L2.start, List.map_cons, List.map_nil, List.length_cons, List.length_nil, List.cons_append, List.nil_append, List.set_cons_zero, List.set_cons_succ, List.getElem?_cons_zero, List.getElem?_cons_succ, Option.some.injEq, V.int.injEq, V.str.injEq, V.bl.injEq, V.ref.injEq, V.ty.injEq, List.cons.injEq, exists_and_left, exists_and_right, exists_eq_left, exists_eq_left', exists_eq, exists_eq', and_true, true_and, exists_const, List.replicate, Nat.sub_self, Nat.reduceAdd, Nat.reduceSub, if_true, if_false, Bool.false_eq_true, ite_true, ite_false, reduceIte]
    refine ⟨n, rfl, _, rfl, iteT ?_⟩
    cases q : decide (a ≤ n) with
    | true =>
      rw [q] at k
      exact iteT k
    | false =>
      rw [q] at k
      exact iteF k
abbrev N_is_cell : List Str := ["value", "size"]
theorem sc_is_cell : FnScope N_is_cell ["value", "size"] (defScope (top 50)) := ⟨rfl, rfl, rfl, by decide +kernel, rfl, by decide +kernel, by decide +kernel⟩
def spIsCell (K : PySem.W.Frag) : Sp := fun vs H Q _ => ∃ (p : Addr) (i j n : Int), vs = [.ref p, .int n] ∧ H p = some (.tup [.int i, .int j]) ∧ Q (.bl (decide (0 ≤ i) && decide (i ≤ n - 1) && (decide (0 ≤ j) && decide (j ≤ n - 1)))) H
theorem F_is_cell (T : TX w K mg) : Fn P w K mg base 3 "is_cell" (spIsCell K) := by
  obtain ⟨fd, F⟩ := T.fi 14
  have nd := sc_is_cell.nd
  have F_within_values := F_within (P := P) (base := base) T
  refine ⟨_, raw0 F sc_is_cell (fun vs H Q E h => ?_) (fun _ _ _ _ _ _ us hl => match us, hl with | [_, _], _ => rfl) (fun cdv A outer s H vs Q E hr h => ?_), T.g "is_cell", F.kp⟩
  · obtain ⟨_, _, _, _, rfl, _⟩ := h
    rfl
  · obtain ⟨p, i, j, n, rfl, hp, k⟩ := h
    refine ⟨_, (pss_cons (ps_if (PW.pt (pw_or (pt_not (pt_val (pe_callB call_isi (by rfl) (T.z "isinstance") (by decide +kernel) (pa_cons (pv 0) (pa_cons (pe_ty (n := "tuple") (by rfl) (T.z "tuple") (by decide +kernel)) pa_nil))))) (pw_or1 (pt_cmpR op_ne (pe_callB call_len_seq (by rfl) (T.z "len") (by decide +kernel) (pa_cons (pv 0) pa_nil)) (pe_int) (nomark _))))) (pss_one (ps_ret (pe_bl))) pss_nil)
    (pss_one (ps_ret (pe_and (pe_f F_within_values hr (pa_cons (pe_ix ix_tup (pv 0) (pe_int) (fun _ _ => rfl)) (pa_cons (pe_int) (pa_cons (pe_op op_sub (pv 1) (pe_int)) pa_nil)))) (pe_one (pe_f F_within_values hr (pa_cons (pe_ix ix_tup (pv 0) (pe_int) (fun _ _ => rfl)) (pa_cons (pe_int) (pa_cons (pe_op op_sub (pv 1) (pe_int)) pa_nil))))))))), ?_⟩
    simp only [tSeq, tRet, tRetN, tAsg, tIf, tIfS, tNext, tTest, tB, cx_K, cx_w, cx_nK, cx_nw, tOp, tUn, tVar, tC, tCons, tNil, tTup, tLst, tF, tM1, tCB, tAnd, tOr, tNot, tAndV, tOrV, tNotV, tChain, tFld, tPart, tNoPart, tSl, rU, rI0, rI, rEq, rNe, rIxD, rIxL, rIxT, rLen, rIsi, rLenQ, rTupOf, rIn, rSlL, rNewStrs, rAppend, rCat, gUnl, tDrop, wipe, List.foldl_cons, List.foldl_nil, StX.tMakeR, sFld, tLenSetN, rIndex, rSorted, rSortedT, rSetOfT, tPar, tPar3, tBM, rSum, rAll, rAny, tNever, gName, gTup, gCons, gNil, L2.start, List.map_cons, List.map_nil, List.length_cons, List.length_nil, List.cons_append, List.nil_append, List.set_cons_zero, List.set_cons_succ, List.getElem?_cons_zero, List.getElem?_cons_succ, Option.some.injEq, V.int.injEq, V.str.injEq, V.bl.injEq, V.ref.injEq, V.ty.injEq, List.cons.injEq, exists_and_left, exists_and_right, exists_eq_left, exists_eq_left', exists_eq, exists_eq', and_true, true_and, exists_const, List.replicate, Nat.sub_self, Nat.reduceAdd, Nat.reduceSub, if_true, if_false, Bool.false_eq_true, ite_true, ite_false, reduceIte]
    refine ⟨_, _, ⟨rfl, rfl⟩, _, _, .ty _, .base (.tup hp), _, k_tt, iteF ⟨_, .inr (.of hp), rfl, iteF ⟨_, .of hp, _, rfl, i, 0, n - 1, rfl, _, rfl, ?_⟩⟩⟩
    cases q : (decide (0 ≤ i) && decide (i ≤ n - 1)) with
    | true =>
      rw [q] at k
      exact iteT ⟨_, .of hp, _, rfl, j, 0, n - 1, rfl, k⟩
    | false =>
      rw [q] at k
      exact iteF k
abbrev N_check_size : List Str := ["value"]
theorem sc_check_size : FnScope N_check_size ["value"] (defScope (top 53)) := ⟨rfl, rfl, rfl, by decide +kernel, rfl, by decide +kernel, by decide +kernel⟩
def spCheckSize : Sp := fun vs H Q _ => ∃ n : Int, vs = [.int n] ∧ 1 ≤ n ∧ n ≤ 10 ^ 30 ∧ Q .non H
theorem F_check_size (T : TX w K mg) : Fn P w K mg base 3 "check_size" spCheckSize := by
  obtain ⟨fd, F⟩ := T.fi 15
  have nd := sc_check_size.nd
  have F_within_values := F_within (P := P) (base := base) T
  refine ⟨_, raw0 F sc_check_size (fun vs H Q E h => ?_) (fun _ _ _ _ _ _ us hl => match us, hl with | [_], _ => rfl) (fun cdv A outer s H vs Q E hr h => ?_), T.g "check_size", F.kp⟩
  · obtain ⟨_, rfl, _⟩ := h
    rfl
  · obtain ⟨n, rfl, h1, h2, k⟩ := h
    refine ⟨_, (pss_one (ps_if (pt_not (pt_val (pe_f F_within_values hr (pa_cons (pv 0) (pa_cons (pe_int) (pa_cons (pe_gi rfl T.size) pa_nil)))))) (pss_one (ps_never)) pss_nil)), ?_⟩
    simp only [tSeq, tRet, tRetN, tAsg, tIf, tIfS, tNext, tTest, tB, cx_K, cx_w, cx_nK, cx_nw, tOp, tUn, tVar, tC, tCons, tNil, tTup, tLst, tF, tM1, tCB, tAnd, tOr, tNot, tAndV, tOrV, tNotV, tChain, tFld, tPart, tNoPart, tSl, rU, rI0, rI, rEq, rNe, rIxD, rIxL, rIxT, rLen, rIsi, rLenQ, rTupOf, rIn, rSlL, rNewStrs, rAppend, rCat, gUnl, tDrop, wipe, List.foldl_cons, List.foldl_nil, StX.tMakeR, sFld, tLenSetN, rIndex, rSorted, rSortedT, rSetOfT, tPar, tPar3, tBM, rSum, rAll, rAny, tNever, gName, gTup, gCons, gNil, L2.start, List.map_cons, List.map_nil, List.length_cons, List.length_nil, List.cons_append, List.nil_append, List.set_cons_zero, List.set_cons_succ, List.getElem?_cons_zero, List.getElem?_cons_succ, Option.some.injEq, V.int.injEq, V.str.injEq, V.bl.injEq, V.ref.injEq, V.ty.injEq, List.cons.injEq, exists_and_left, exists_and_right, exists_eq_left, exists_eq_left', exists_eq, exists_eq', and_true, true_and, exists_const, List.replicate, Nat.sub_self, Nat.reduceAdd, Nat.reduceSub, if_true, if_false, Bool.false_eq_true, ite_true, ite_false, reduceIte]
    refine ⟨n, 1, 10 ^ 30, rfl, _, rfl, ?_⟩
    rw [decide_eq_true h1, decide_eq_true h2]
    exact iteF k
abbrev N_check_cell : List Str := ["size", "value"]
theorem sc_check_cell : FnScope N_check_cell ["size", "value"] (defScope (top 54)) := ⟨rfl, rfl, rfl, by decide +kernel, rfl, by decide +kernel, by decide +kernel⟩
def spCheckCell (K : PySem.W.Frag) : Sp := fun vs H Q _ => ∃ (p : Addr) (i j n : Int), vs = [.int n, .ref p] ∧ H p = some (.tup [.int i, .int j]) ∧ 0 ≤ i ∧ i < n ∧ 0 ≤ j ∧ j < n ∧ Q .non H
theorem F_check_cell (T : TX w K mg) : Fn P w K mg base 4 "check_cell" (spCheckCell K) := by
  obtain ⟨fd, F⟩ := T.fi 16
  have nd := sc_check_cell.nd
  have F_is_cell := F_is_cell (P := P) (base := base) T
  refine ⟨_, raw0 F sc_check_cell (fun vs H Q E h => ?_) (fun _ _ _ _ _ _ us hl => match us, hl with | [_, _], _ => rfl) (fun cdv A outer s H vs Q E hr h => ?_), T.g "check_cell", F.kp⟩
  · obtain ⟨_, _, _, _, rfl, _⟩ := h
    rfl
  · obtain ⟨p, i, j, n, rfl, hp, h1, h2, h3, h4, k⟩ := h
    refine ⟨_, (pss_one (ps_if (pt_not (pt_val (pe_f F_is_cell hr (pa_cons (pv 1) (pa_cons (pv 0) pa_nil))))) (pss_one (ps_never)) pss_nil)), ?_⟩
    simp only [tSeq, tRet, tRetN, tAsg, tIf, tIfS, tNext, tTest, tB, cx_K, cx_w, cx_nK, cx_nw, tOp, tUn, tVar, tC, tCons, tNil, tTup, tLst, tF, tM1, tCB, tAnd, tOr, tNot, tAndV, tOrV, tNotV, tChain, tFld, tPart, tNoPart, tSl, rU, rI0, rI, rEq, rNe, rIxD, rIxL, rIxT, rLen, rIsi, rLenQ, rTupOf, rIn, rSlL, rNewStrs, rAppend, rCat, gUnl, tDrop, wipe, List.foldl_cons, List.foldl_nil, StX.tMakeR, sFld, tLenSetN, rIndex, rSorted, rSortedT, rSetOfT, tPar, tPar3, tBM, rSum, rAll, rAny, tNever, gName, gTup, gCons, gNil, L2.start, List.map_cons, List.map_nil, List.length_cons, List.length_nil, List.cons_append, List.nil_append, List.set_cons_zero, List.set_cons_succ, List.getElem?_cons_zero, List.getElem?_cons_succ, Option.some.injEq, V.int.injEq, V.str.injEq, V.bl.injEq, V.ref.injEq, V.ty.injEq, List.cons.injEq, exists_and_left, exists_and_right, exists_eq_left, exists_eq_left', exists_eq, exists_eq', and_true, true_and, exists_const, List.replicate, Nat.sub_self, Nat.reduceAdd, Nat.reduceSub, if_true, if_false, Bool.false_eq_true, ite_true, ite_false, reduceIte]
    refine ⟨p, i, j, n, rfl, hp, _, rfl, ?_⟩
    rw [decide_eq_true h1, decide_eq_true h3, decide_eq_true (show i ≤ n - 1 by omega), decide_eq_true (show j ≤ n - 1 by omega)]
    exact iteF k
end
end Sq

set_option Elab.async false
set_option linter.all false
set_option maxRecDepth 100000
set_option maxHeartbeats 4000000
/-! ## Walks: loops, deeds -/
namespace Sq
open PySem PySem.Spec PyProof.Rows L2 He
section
variable {P : Program} {w : World} {K : PySem.W.Frag} {mg : Str → Option Value} {base : Heap}
def spIsLoop : Sp := fun vs H Q _ => ∃ (l : Lp) (inner : Bool), vs = [.str l.txt, .bl inner] ∧ l ∈ lps ∧ (l.outer = false → inner = true) ∧ ∀ H', Same H H' → Q (.bl true) H'
abbrev N_is_loop : List Str := ["value", "inner", "words"]
theorem sc_is_loop : FnScope N_is_loop ["value", "inner"] (defScope (top 6)) := ⟨rfl, rfl, rfl, by decide +kernel, rfl, by decide +kernel, by decide +kernel⟩
theorem F_is_loop (T : TX w K mg) : Fn P w K mg base 2 "is_loop" (spIsLoop) := by
  obtain ⟨fd, F⟩ := T.fi 2
  have nd := sc_is_loop.nd
  have F_is_bound := F_is_bound (P := P) (base := base) T
  refine ⟨_, raw0 F sc_is_loop (fun vs H Q E h => ?_) (fun _ _ _ _ _ _ us hl => match us, hl with | [_, _], _ => rfl) (fun cdv A outer s H vs Q E hr h => ?_), T.g "is_loop", F.kp⟩
  · obtain ⟨l, inner, rfl, hl, hi, k⟩ := h
    rfl
  · obtain ⟨l, inner, rfl, hl, hi, k⟩ := h
    refine ⟨_, (pss_cons (ps_if (pt_not (pt_val (pe_callB call_isi (by rfl) (T.z "isinstance") (by decide +kernel) (pa_cons (pv 0) (pa_cons (pe_ty (n := "str") (by rfl) (T.z "str") (by decide +kernel)) pa_nil))))) (pss_one (ps_ret (pe_bl))) pss_nil)
    (pss_cons (ps_set (i := 2) nd rfl (Or.inl rfl) (pe_split (pv 0) (pe_str)))
    (pss_cons (ps_if (PW.pt (pw_and (pt_cmpR op_eq (pe_callB call_len_seq (by rfl) (T.z "len") (by decide +kernel) (pa_cons (pv 2) pa_nil)) (pe_int) (nomark _)) (pw_and1 (pt_cmpR op_eq (pe_ix ix_list (pv 2) (pe_int) (fun _ _ => rfl)) (pe_str) (nomark _))))) (pss_one (ps_set (i := 2) nd rfl (Or.inl rfl) (pe_slice sl_list (pv 2) po_none (po_some (pe_int))))) pss_nil)
    (pss_cons (ps_if (PW.pt (pw_or (pt_cmpR op_ne (pe_callB call_len_seq (by rfl) (T.z "len") (by decide +kernel) (pa_cons (pv 2) pa_nil)) (pe_int) (nomark _)) (pw_or1 (pt_cmpR op_ne (pe_ix ix_list (pv 2) (pe_int) (fun _ _ => rfl)) (pe_str) (nomark _))))) (pss_one (ps_ret (pe_bl))) pss_nil)
    (pss_one (ps_ret (pe_and (pe_f F_is_bound hr (pa_cons (pe_ix ix_list (pv 2) (pe_int) (fun _ _ => rfl)) (pa_cons (pv 1) pa_nil))) (pe_one (pe_f F_is_bound hr (pa_cons (pe_ix ix_list (pv 2) (pe_int) (fun _ _ => rfl)) (pa_cons (pv 1) pa_nil))))))))))), ?_⟩
    simp only [tSeq, tRet, tRetN, tAsg, tIf, tIfS, tNext, tTest, tB, cx_K, cx_w, cx_nK, cx_nw, tOp, tUn, tVar, tC, tCons, tNil, tTup, tLst, tF, tM1, tCB, tAnd, tOr, tNot, tAndV, tOrV, tNotV, tChain, tFld, tPart, tNoPart, tSl, rU, rI0, rI, rEq, rNe, rIxD, rIxL, rIxT, rLen, rIsi, rLenQ, rTupOf, rIn, rSlL, rNewStrs, rAppend, rCat, gUnl, tDrop, wipe, List.foldl_cons, List.foldl_nil, StX.tMakeR, sFld, tLenSetN, rIndex, rSorted, rSortedT, rSetOfT, tPar, tPar3, tBM, rSum, rAll, rAny, tNever, gName, gTup, gCons, gNil, L2.start, List.map_cons, List.map_nil, List.length_cons, List.length_nil, List.cons_append, List.nil_append, List.set_cons_zero, List.set_cons_succ, List.getElem?_cons_zero, List.getElem?_cons_succ, Option.some.injEq, V.int.injEq, V.str.injEq, V.bl.injEq, V.ref.injEq, V.ty.injEq, List.cons.injEq, exists_and_left, exists_and_right, exists_eq_left, exists_eq_left', exists_eq, exists_eq', and_true, true_and, exists_const, List.replicate, Nat.sub_self, Nat.reduceAdd, Nat.reduceSub, if_true, if_false, Bool.false_eq_true, ite_true, ite_false, reduceIte]
    refine ⟨_, _, ⟨rfl, rfl⟩, _, _, .ty _, .base (.str _), _, k_ss, iteF ⟨by rfl, by have := lps_len l hl; rw [sizeLine_eq]; omega, fun p hp => ?_⟩⟩
    rw [lps_split l hl]
    have o1 : l.lo.outer = false → inner = true := fun h => hi (by show (l.lo.outer && l.hi.outer) = false; rw [h]; rfl)
    have o2 : l.hi.outer = false → inner = true := fun h => hi (by show (l.lo.outer && l.hi.outer) = false; rw [h, Bool.and_false])
    have k0 := k
    cases hd : l.down with
    | false =>
      have e : l.words = [l.lo.txt, "to", l.hi.txt] := by unfold Lp.words; rw [hd]; rfl
      rw [e]
      have q : SqL K (upd H p (.lst [.str l.lo.txt, .str "to", .str l.hi.txt])) p [.str l.lo.txt, .str "to", .str l.hi.txt] := .of upd_same
      refine ⟨_, .inl q, rfl, iteF ⟨_, .inl q, rfl, iteF ⟨_, q, _, rfl, rfl, iteF ?_⟩⟩⟩
      refine ⟨_, q, _, rfl, l.lo, inner, rfl, o1, _, rfl, iteT ⟨_, q, _, rfl, l.hi, inner, rfl, o2, ?_⟩⟩
      exact k _ (Same.upd (Same.refl H) hp)
    | true =>
      have e : l.words = [l.lo.txt, "to", l.hi.txt, "down"] := by unfold Lp.words; rw [hd]; rfl
      rw [e]
      have q : SqL K (upd H p (.lst [.str l.lo.txt, .str "to", .str l.hi.txt, .str "down"])) p [.str l.lo.txt, .str "to", .str l.hi.txt, .str "down"] := .of upd_same
      refine ⟨_, .inl q, rfl, iteT ⟨_, q, _, rfl, rfl, iteT ⟨_, q, fun r hr2 => ?_⟩⟩⟩
      have q2 : SqL K (upd (upd H p (.lst [.str l.lo.txt, .str "to", .str l.hi.txt, .str "down"])) r (.lst [.str l.lo.txt, .str "to", .str l.hi.txt])) r [.str l.lo.txt, .str "to", .str l.hi.txt] := .of upd_same
      refine ⟨_, .inl q2, rfl, iteF ⟨_, q2, _, rfl, rfl, iteF ?_⟩⟩
      refine ⟨_, q2, _, rfl, l.lo, inner, rfl, o1, _, rfl, iteT ⟨_, q2, _, rfl, l.hi, inner, rfl, o2, ?_⟩⟩
      exact k _ (Same.upd (Same.upd (Same.refl H) hp) hr2)
def spIsGuard (K : PySem.W.Frag) : Sp := fun vs H Q _ => ∃ (a : Addr), vs = [.ref a] ∧ SqL K H a [.str "i", .str "<", .str "j"] ∧ Q (.bl true) H
abbrev N_is_guard : List Str := ["words"]
theorem sc_is_guard : FnScope N_is_guard ["words"] (defScope (top 22)) := ⟨rfl, rfl, rfl, by decide +kernel, rfl, by decide +kernel, by decide +kernel⟩
theorem F_is_guard (T : TX w K mg) : Fn P w K mg base 1 "is_guard" (spIsGuard K) := by
  obtain ⟨fd, F⟩ := T.fi 6
  have nd := sc_is_guard.nd
  refine ⟨_, raw0 F sc_is_guard (fun vs H Q E h => ?_) (fun _ _ _ _ _ _ us hl => match us, hl with | [_], _ => rfl) (fun cdv A outer s H vs Q E hr h => ?_), T.g "is_guard", F.kp⟩
  · obtain ⟨a, rfl, ha, k⟩ := h
    rfl
  · obtain ⟨a, rfl, ha, k⟩ := h
    refine ⟨_, (pss_cons (ps_if (PW.pt (pw_or (pt_cmpR op_ne (pe_callB call_len_seq (by rfl) (T.z "len") (by decide +kernel) (pa_cons (pv 0) pa_nil)) (pe_int) (nomark _)) (pw_or1 (pt_cmpR op_notIn_seq (pe_ix ix_list (pv 0) (pe_int) (fun _ _ => rfl)) (pe_K rfl (T.g "SIGNS")) (by rfl))))) (pss_one (ps_ret (pe_bl))) pss_nil)
    (pss_one (ps_ret (pe_and (pe_cmpR op_in_seq (pe_ix ix_list (pv 0) (pe_int) (fun _ _ => rfl)) (pe_K rfl (T.g "NUMBERS")) (by rfl)) (pe_and (pe_cmpR op_in_seq (pe_ix ix_list (pv 0) (pe_int) (fun _ _ => rfl)) (pe_K rfl (T.g "NUMBERS")) (by rfl)) (pe_one (pe_cmpR op_ne (pe_ix ix_list (pv 0) (pe_int) (fun _ _ => rfl)) (pe_ix ix_list (pv 0) (pe_int) (fun _ _ => rfl)) (nomark _)))))))), ?_⟩
    simp only [tSeq, tRet, tRetN, tAsg, tIf, tIfS, tNext, tTest, tB, cx_K, cx_w, cx_nK, cx_nw, tOp, tUn, tVar, tC, tCons, tNil, tTup, tLst, tF, tM1, tCB, tAnd, tOr, tNot, tAndV, tOrV, tNotV, tChain, tFld, tPart, tNoPart, tSl, rU, rI0, rI, rEq, rNe, rIxD, rIxL, rIxT, rLen, rIsi, rLenQ, rTupOf, rIn, rSlL, rNewStrs, rAppend, rCat, gUnl, tDrop, wipe, List.foldl_cons, List.foldl_nil, StX.tMakeR, sFld, tLenSetN, rIndex, rSorted, rSortedT, rSetOfT, tPar, tPar3, tBM, rSum, rAll, rAny, tNever, gName, gTup, gCons, gNil, L2.start, List.map_cons, List.map_nil, List.length_cons, List.length_nil, List.cons_append, List.nil_append, List.set_cons_zero, List.set_cons_succ, List.getElem?_cons_zero, List.getElem?_cons_succ, Option.some.injEq, V.int.injEq, V.str.injEq, V.bl.injEq, V.ref.injEq, V.ty.injEq, List.cons.injEq, exists_and_left, exists_and_right, exists_eq_left, exists_eq_left', exists_eq, exists_eq', and_true, true_and, exists_const, List.replicate, Nat.sub_self, Nat.reduceAdd, Nat.reduceSub, if_true, if_false, Bool.false_eq_true, ite_true, ite_false, reduceIte]
    refine ⟨_, .inl ha, rfl, iteF ⟨_, ha, _, rfl, _, .inr (tupA_ok T.e.signsT H), rfl, rfl, iteF ?_⟩⟩
    refine ⟨_, ha, _, rfl, _, .inr (tupA_ok T.e.numbersT H), rfl, rfl, iteT ?_⟩
    refine ⟨_, ha, _, rfl, _, .inr (tupA_ok T.e.numbersT H), rfl, rfl, iteT ?_⟩
    exact ⟨_, ha, _, rfl, _, ha, _, rfl, rfl, k⟩
def spPlaceCell : Sp := fun vs H Q _ => ∃ (p : Pl) (n a b : Int), vs = [.str (Pl.txt p), .int n, .int a, .int b] ∧ p ∈ pls ∧ ∀ H' t, Same H H' → H t = none → H' t = some (.tup [.int (p.cell n a b).1, .int (p.cell n a b).2]) → Q (.ref t) H'
abbrev N_place_cell : List Str := ["place", "size", "i", "j", "row", "column"]
theorem sc_place_cell : FnScope N_place_cell ["place", "size", "i", "j"] (defScope (top 25)) := ⟨rfl, rfl, rfl, by decide +kernel, rfl, by decide +kernel, by decide +kernel⟩
theorem F_place_cell (T : TX w K mg) : Fn P w K mg base 2 "place_cell" (spPlaceCell) := by
  obtain ⟨fd, F⟩ := T.fi 9
  have nd := sc_place_cell.nd
  have F_number_of := F_number_of (P := P) (base := base) T
  refine ⟨_, raw0 F sc_place_cell (fun vs H Q E h => ?_) (fun _ _ _ _ _ _ us hl => match us, hl with | [_, _, _, _], _ => rfl) (fun cdv A outer s H vs Q E hr h => ?_), T.g "place_cell", F.kp⟩
  · obtain ⟨p, n, a, b, rfl, hp, k⟩ := h
    rfl
  · obtain ⟨p, n, a, b, rfl, hp, k⟩ := h
    refine ⟨_, (pss_cons (ps_asg (pe_split (pv 0) (pe_str)) (pg_unl (n := 2) rfl (pgs_cons (pg_name (i := 4) nd rfl (Or.inl rfl)) (pgs_cons (pg_name (i := 5) nd rfl (Or.inl rfl)) pgs_nil))))
    (pss_one (ps_ret (pe_tup (pa_cons (pe_f F_number_of hr (pa_cons (pv 4) (pa_cons (pv 1) (pa_cons (pv 2) (pa_cons (pv 3) pa_nil))))) (pa_cons (pe_f F_number_of hr (pa_cons (pv 5) (pa_cons (pv 1) (pa_cons (pv 2) (pa_cons (pv 3) pa_nil))))) pa_nil)))))), ?_⟩
    simp only [tSeq, tRet, tRetN, tAsg, tIf, tIfS, tNext, tTest, tB, cx_K, cx_w, cx_nK, cx_nw, tOp, tUn, tVar, tC, tCons, tNil, tTup, tLst, tF, tM1, tCB, tAnd, tOr, tNot, tAndV, tOrV, tNotV, tChain, tFld, tPart, tNoPart, tSl, rU, rI0, rI, rEq, rNe, rIxD, rIxL, rIxT, rLen, rIsi, rLenQ, rTupOf, rIn, rSlL, rNewStrs, rAppend, rCat, gUnl, tDrop, wipe, List.foldl_cons, List.foldl_nil, StX.tMakeR, sFld, tLenSetN, rIndex, rSorted, rSortedT, rSetOfT, tPar, tPar3, tBM, rSum, rAll, rAny, tNever, gName, gTup, gCons, gNil, L2.start, List.map_cons, List.map_nil, List.length_cons, List.length_nil, List.cons_append, List.nil_append, List.set_cons_zero, List.set_cons_succ, List.getElem?_cons_zero, List.getElem?_cons_succ, Option.some.injEq, V.int.injEq, V.str.injEq, V.bl.injEq, V.ref.injEq, V.ty.injEq, List.cons.injEq, exists_and_left, exists_and_right, exists_eq_left, exists_eq_left', exists_eq, exists_eq', and_true, true_and, exists_const, List.replicate, Nat.sub_self, Nat.reduceAdd, Nat.reduceSub, if_true, if_false, Bool.false_eq_true, ite_true, ite_false, reduceIte]
    refine ⟨by rfl, by have := pls_len p hp; rw [sizeLine_eq]; omega, fun l hl => ?_⟩
    rw [pls_split p hp]
    refine ⟨_, SqL.of upd_same, rfl, _, _, rfl, _, _, rfl, rfl, p.1, n, a, b, rfl, p.2, n, a, b, rfl, by rw [sizeLine_eq]; decide, fun t ht => ?_⟩
    exact k _ t (Same.upd (Same.upd (Same.refl H) hl) ht) ((Same.upd (Same.refl H) hl).free ht) upd_same
def spHolds (K : PySem.W.Frag) : Sp := fun vs H Q _ => ∃ (g : Addr) (d : Dd) (n a b : Int), vs = [.ref g, .int n, .int a, .int b] ∧ SqL K H g (d.gw.map V.str) ∧ Q (.bl (!d.guard || decide (a < b))) H
abbrev N_holds : List Str := ["guard", "size", "i", "j", "one", "other"]
theorem sc_holds : FnScope N_holds ["guard", "size", "i", "j"] (defScope (top 26)) := ⟨rfl, rfl, rfl, by decide +kernel, rfl, by decide +kernel, by decide +kernel⟩
theorem F_holds (T : TX w K mg) : Fn P w K mg base 2 "holds" (spHolds K) := by
  obtain ⟨fd, F⟩ := T.fi 10
  have nd := sc_holds.nd
  have F_number_of := F_number_of (P := P) (base := base) T
  refine ⟨_, raw0 F sc_holds (fun vs H Q E h => ?_) (fun _ _ _ _ _ _ us hl => match us, hl with | [_, _, _, _], _ => rfl) (fun cdv A outer s H vs Q E hr h => ?_), T.g "holds", F.kp⟩
  · obtain ⟨g, d, n, a, b, rfl, hg, k⟩ := h
    rfl
  · obtain ⟨g, d, n, a, b, rfl, hg, k⟩ := h
    refine ⟨_, (pss_cons (ps_if (pt_cmpR op_eq (pe_callB call_len_seq (by rfl) (T.z "len") (by decide +kernel) (pa_cons (pv 0) pa_nil)) (pe_int) (nomark _)) (pss_one (ps_ret (pe_bl))) pss_nil)
    (pss_cons (ps_par (i := 4) (j := 5) (by rfl) nd rfl rfl (by decide) rfl rfl (pa_cons (pe_f F_number_of hr (pa_cons (pe_ix ix_list (pv 0) (pe_int) (fun _ _ => rfl)) (pa_cons (pv 1) (pa_cons (pv 2) (pa_cons (pv 3) pa_nil))))) (pa_cons (pe_f F_number_of hr (pa_cons (pe_ix ix_list (pv 0) (pe_int) (fun _ _ => rfl)) (pa_cons (pv 1) (pa_cons (pv 2) (pa_cons (pv 3) pa_nil))))) pa_nil)) (by rfl))
    (pss_cons (ps_if (pt_cmpR op_eq (pe_ix ix_list (pv 0) (pe_int) (fun _ _ => rfl)) (pe_str) (nomark _)) (pss_one (ps_ret (pe_cmpR op_lt (pv 4) (pv 5) (nomark _)))) pss_nil)
    (pss_cons (ps_if (pt_cmpR op_eq (pe_ix ix_list (pv 0) (pe_int) (fun _ _ => rfl)) (pe_str) (nomark _)) (pss_one (ps_ret (pe_cmpR op_le (pv 4) (pv 5) (nomark _)))) pss_nil)
    (pss_one (ps_ret (pe_cmpR op_eq (pe_cmpR op_eq (pv 4) (pv 5) (nomark _)) (pe_cmpR op_eq (pe_ix ix_list (pv 0) (pe_int) (fun _ _ => rfl)) (pe_str) (nomark _)) (nomark _)))))))), ?_⟩
    simp only [tSeq, tRet, tRetN, tAsg, tIf, tIfS, tNext, tTest, tB, cx_K, cx_w, cx_nK, cx_nw, tOp, tUn, tVar, tC, tCons, tNil, tTup, tLst, tF, tM1, tCB, tAnd, tOr, tNot, tAndV, tOrV, tNotV, tChain, tFld, tPart, tNoPart, tSl, rU, rI0, rI, rEq, rNe, rIxD, rIxL, rIxT, rLen, rIsi, rLenQ, rTupOf, rIn, rSlL, rNewStrs, rAppend, rCat, gUnl, tDrop, wipe, List.foldl_cons, List.foldl_nil, StX.tMakeR, sFld, tLenSetN, rIndex, rSorted, rSortedT, rSetOfT, tPar, tPar3, tBM, rSum, rAll, rAny, tNever, gName, gTup, gCons, gNil, L2.start, List.map_cons, List.map_nil, List.length_cons, List.length_nil, List.cons_append, List.nil_append, List.set_cons_zero, List.set_cons_succ, List.getElem?_cons_zero, List.getElem?_cons_succ, Option.some.injEq, V.int.injEq, V.str.injEq, V.bl.injEq, V.ref.injEq, V.ty.injEq, List.cons.injEq, exists_and_left, exists_and_right, exists_eq_left, exists_eq_left', exists_eq, exists_eq', and_true, true_and, exists_const, List.replicate, Nat.sub_self, Nat.reduceAdd, Nat.reduceSub, if_true, if_false, Bool.false_eq_true, ite_true, ite_false, reduceIte]
    refine ⟨_, .inl hg, ?_⟩
    cases hd : d.guard with
    | false =>
      have e : d.gw = [] := by unfold Dd.gw; rw [hd]; rfl
      rw [hd] at k
      rw [e]
      exact ⟨rfl, iteT k⟩
    | true =>
      have e : d.gw = [("i" : Str), "<", "j"] := by unfold Dd.gw; rw [hd]; rfl
      rw [hd] at k
      rw [e] at hg ⊢
      refine ⟨rfl, iteF ?_⟩
      exact ⟨_, hg, _, rfl, .i, n, a, b, rfl, _, hg, _, rfl, .j, n, a, b, rfl, _, _, ⟨rfl, rfl⟩, _, hg, _, rfl, rfl, iteT ⟨_, rfl, _, rfl, k⟩⟩
/-- the facts of the classes -/
theorem TX.cls (T : TX w K mg) : Cls K (ga K "Deed") ∧ Cls K (ga K "Nest") ∧ Cls K (ga K "Program") ∧ Cls K (ga K "Sizes") ∧ Cls K (ga K "Action") :=
  ⟨cls_ok (T.says.a.fact 4 (f := .cls "Deed")), cls_ok (T.says.a.fact 5 (f := .cls "Nest")), cls_ok (T.says.a.fact 6 (f := .cls "Program")), cls_ok (T.says.a.fact 7 (f := .cls "Sizes")), cls_ok (T.says.a.fact 8 (f := .cls "Action"))⟩
theorem TX.mkD (T : TX w K mg) : Mk K (ga K "Deed") (ma K (ga K "Deed") "__init__") := mkr_ok (T.says.a.fact 9 (f := .mkr "Deed"))
theorem TX.mkN (T : TX w K mg) : Mk K (ga K "Nest") (ma K (ga K "Nest") "__init__") := mkr_ok (T.says.a.fact 10 (f := .mkr "Nest"))
theorem TX.mkP (T : TX w K mg) : Mk K (ga K "Program") (ma K (ga K "Program") "__init__") := mkr_ok (T.says.a.fact 11 (f := .mkr "Program"))
theorem TX.mkS (T : TX w K mg) : Mk K (ga K "Sizes") (ma K (ga K "Sizes") "__init__") := mkr_ok (T.says.a.fact 12 (f := .mkr "Sizes"))
theorem TX.mkA (T : TX w K mg) : Mk K (ga K "Action") (ma K (ga K "Action") "__init__") := mkr_ok (T.says.a.fact 13 (f := .mkr "Action"))
theorem TX.noD (T : TX w K mg) : NoAttr K (ga K "Deed") "word" ∧ NoAttr K (ga K "Deed") "spots" ∧ NoAttr K (ga K "Deed") "guard" :=
  ⟨noat_ok (T.says.a.fact 14 (f := .noat "Deed" "word")), noat_ok (T.says.a.fact 15 (f := .noat "Deed" "spots")), noat_ok (T.says.a.fact 16 (f := .noat "Deed" "guard"))⟩
theorem TX.noN (T : TX w K mg) : NoAttr K (ga K "Nest") "over" ∧ NoAttr K (ga K "Nest") "below" ∧ NoAttr K (ga K "Nest") "texts" ∧ NoAttr K (ga K "Nest") "parsed" :=
  ⟨noat_ok (T.says.a.fact 17 (f := .noat "Nest" "over")), noat_ok (T.says.a.fact 18 (f := .noat "Nest" "below")), noat_ok (T.says.a.fact 19 (f := .noat "Nest" "texts")), noat_ok (T.says.a.fact 20 (f := .noat "Nest" "parsed"))⟩
theorem TX.noP (T : TX w K mg) : NoAttr K (ga K "Program") "parts" := noat_ok (T.says.a.fact 21 (f := .noat "Program" "parts"))
theorem TX.noS (T : TX w K mg) : NoAttr K (ga K "Sizes") "tails" ∧ NoAttr K (ga K "Sizes") "few" := ⟨noat_ok (T.says.a.fact 22 (f := .noat "Sizes" "tails")), noat_ok (T.says.a.fact 23 (f := .noat "Sizes" "few"))⟩
theorem TX.noA (T : TX w K mg) : NoAttr K (ga K "Action") "moves" ∧ NoAttr K (ga K "Action") "gaps" := ⟨noat_ok (T.says.a.fact 24 (f := .noat "Action" "moves")), noat_ok (T.says.a.fact 25 (f := .noat "Action" "gaps"))⟩
def spDeedInit (K : PySem.W.Frag) : Sp := fun vs H Q _ => ∃ (x dx : Addr) (a b c : V), vs = [.ref x, a, b, c] ∧ H x = some (.ins (ga K "Deed") dx []) ∧ Q .non (upd H x (.ins (ga K "Deed") dx [("word", a), ("spots", b), ("guard", c)]))
abbrev N_Deed_init : List Str := ["self", "word", "spots", "guard"]
theorem sc_Deed_init : FnScope N_Deed_init ["self", "word", "spots", "guard"] (defScope (inClass (top 21) 0)) := ⟨rfl, rfl, rfl, by decide +kernel, rfl, by decide +kernel, by decide +kernel⟩
theorem F_Deed_init (T : TX w K mg) : FnR P w K mg base CX0 1 (ma K (ga K "Deed") "__init__") (spDeedInit K) := by
  obtain ⟨fd, F⟩ := T.fi 51
  have nd := sc_Deed_init.nd
  refine raw0 F sc_Deed_init (fun vs H Q E h => ?_) (fun _ _ _ _ _ _ us hl => match us, hl with | [_, _, _, _], _ => rfl) (fun cdv A outer s H vs Q E hr h => ?_)
  · obtain ⟨x, dx, a, b, c, rfl, hx, k⟩ := h
    rfl
  · obtain ⟨x, dx, a, b, c, rfl, hx, k⟩ := h
    refine ⟨_, (pss_cons (ps_fld (pv 0) (pv 1) rfl)
    (pss_cons (ps_fld (pv 0) (pv 2) rfl)
    (pss_one (ps_fld (pv 0) (pv 3) rfl)))), ?_⟩
    simp only [tSeq, tRet, tRetN, tAsg, tIf, tIfS, tNext, tTest, tB, cx_K, cx_w, cx_nK, cx_nw, tOp, tUn, tVar, tC, tCons, tNil, tTup, tLst, tF, tM1, tCB, tAnd, tOr, tNot, tAndV, tOrV, tNotV, tChain, tFld, tPart, tNoPart, tSl, rU, rI0, rI, rEq, rNe, rIxD, rIxL, rIxT, rLen, rIsi, rLenQ, rTupOf, rIn, rSlL, rNewStrs, rAppend, rCat, gUnl, tDrop, wipe, List.foldl_cons, List.foldl_nil, StX.tMakeR, sFld, tLenSetN, rIndex, rSorted, rSortedT, rSetOfT, tPar, tPar3, tBM, rSum, rAll, rAny, tNever, gName, gTup, gCons, gNil, L2.start, List.map_cons, List.map_nil, List.length_cons, List.length_nil, List.cons_append, List.nil_append, List.set_cons_zero, List.set_cons_succ, List.getElem?_cons_zero, List.getElem?_cons_succ, Option.some.injEq, V.int.injEq, V.str.injEq, V.bl.injEq, V.ref.injEq, V.ty.injEq, List.cons.injEq, exists_and_left, exists_and_right, exists_eq_left, exists_eq_left', exists_eq, exists_eq', and_true, true_and, exists_const, List.replicate, Nat.sub_self, Nat.reduceAdd, Nat.reduceSub, if_true, if_false, Bool.false_eq_true, ite_true, ite_false, reduceIte]
    refine ⟨_, _, _, hx, T.cls.1, T.noD.1, by decide, ?_⟩
    refine ⟨_, _, _, upd_same, T.cls.1, T.noD.2.1, by show (1 : Nat) < 1000; decide, ?_⟩
    refine ⟨_, _, _, upd_same, T.cls.1, T.noD.2.2, by show (2 : Nat) < 1000; decide, ?_⟩
    rw [upd_upd, upd_upd]
    exact k
/-- a deed that stands at a -/
def DeedAt (K : PySem.W.Frag) (H : Hp) (a : Addr) (d : Dd) : Prop := ∃ dx s g, H a = some (.ins (ga K "Deed") dx [("word", .str d.word), ("spots", .ref s), ("guard", .ref g)]) ∧
  SqL K H s (d.spots.map fun p => V.str (Pl.txt p)) ∧ SqL K H g (d.gw.map V.str)
theorem DeedAt.same {H H' : Hp} {a : Addr} {d : Dd} (h : DeedAt K H a d) (s : Same H H') : DeedAt K H' a d := by
  obtain ⟨dx, b, g, e, e1, e2⟩ := h
  exact ⟨dx, b, g, s _ _ e, s.seq e1, s.seq e2⟩
/-- a deed that stands at a in H', its lists new since H -/
def DeedNew (K : PySem.W.Frag) (H H' : Hp) (a : Addr) (d : Dd) : Prop := ∃ dx s g, H' a = some (.ins (ga K "Deed") dx [("word", .str d.word), ("spots", .ref s), ("guard", .ref g)]) ∧
  SqL K H' s (d.spots.map fun p => V.str (Pl.txt p)) ∧ SqL K H' g (d.gw.map V.str) ∧ H s = none ∧ H g = none
def spParsedDeed (K : PySem.W.Frag) : Sp := fun vs H Q _ => ∃ d ∈ dds, vs = [.str d.txt] ∧ ∀ H' a, Same H H' → H a = none → DeedNew K H H' a d → Q (.ref a) H'
theorem seqG {t u : TS} {D : Ends} {σ : L2.St} {H : Hp} (h : ∀ R : L2.St → Hp → Prop, R = u D → t { D with nx := R } σ H) : tSeq t u D σ H := h _ rfl
theorem dds_noif : ∀ d ∈ dds, d.guard = false → inV (.str "if") ((d.word :: d.spots.map Pl.txt).map V.str) = false := by decide +kernel
theorem dds_flat : ∀ d ∈ dds, ((d.word :: d.spots.map Pl.txt).map V.str).all flatV = true := by decide +kernel
theorem dds_cut : ∀ d ∈ dds, cutV ((d.word :: d.spots.map Pl.txt).map V.str) (some 1) none = (d.spots.map Pl.txt).map V.str := by decide +kernel
theorem dds_guard : ∀ d ∈ dds, d.guard = true → d = ⟨false, [(.i, .j), (.j, .i)], true⟩ := by decide +kernel
theorem pls_in : ∀ p ∈ pls, inV (.str (Pl.txt p)) (places.map V.str) = true := by decide +kernel
theorem TX.few (T : TX w K mg) (b : Bool) : ∃ u, PySem.W.nsIn K (ga K "FEWEST") (if b = true then "turn" else "swap" : Str) = some (some u) ∧ RelV (.int (if b = true then 3 else 2)) u := by
  cases b with
  | false => obtain ⟨t, h⟩ := intB_ok T.e.few_s; exact ⟨_, h, _, rfl⟩
  | true => obtain ⟨t, h⟩ := intB_ok T.e.few_t; exact ⟨_, h, _, rfl⟩
theorem TX.most (T : TX w K mg) (b : Bool) : ∃ u, PySem.W.nsIn K (ga K "MOST") (if b = true then "turn" else "swap" : Str) = some (some u) ∧ RelV (.int (if b = true then 8 else 2)) u := by
  cases b with
  | false => obtain ⟨t, h⟩ := intB_ok T.e.most_s; exact ⟨_, h, _, rfl⟩
  | true => obtain ⟨t, h⟩ := intB_ok T.e.most_t; exact ⟨_, h, _, rfl⟩
abbrev N_parsed_deed : List Str := ["value", "words", "guard", "at", "word", "spots", "spot"]
theorem sc_parsed_deed : FnScope N_parsed_deed ["value"] (defScope (top 23)) := ⟨rfl, rfl, rfl, by decide +kernel, rfl, by decide +kernel, by decide +kernel⟩
theorem F_parsed_deed (T : TX w K mg) : Fn P w K mg base 3 "parsed_deed" (spParsedDeed K) := by
  obtain ⟨fd, F⟩ := T.fi 7
  have nd := sc_parsed_deed.nd
  have F_is_guard := F_is_guard (P := P) (base := base) T
  have F_Deed_init := F_Deed_init (P := P) (base := base) T
  obtain ⟨e_hF, n_hF, hF⟩ := T.says.tab 2
  refine ⟨_, raw0 F sc_parsed_deed (fun vs H Q E h => ?_) (fun _ _ _ _ _ _ us hl => match us, hl with | [_], _ => rfl) (fun cdv A outer s H vs Q E hr h => ?_), T.g "parsed_deed", F.kp⟩
  · obtain ⟨d, hd, rfl, k⟩ := h
    rfl
  · obtain ⟨d, hd, rfl, k⟩ := h
    refine ⟨_, (pss_cons (ps_if (pt_not (pt_val (pe_callB call_isi (by rfl) (T.z "isinstance") (by decide +kernel) (pa_cons (pv 0) (pa_cons (pe_ty (n := "str") (by rfl) (T.z "str") (by decide +kernel)) pa_nil))))) (pss_one (ps_ret (pe_non))) pss_nil)
    (pss_cons (ps_par (i := 1) (j := 2) (by rfl) nd rfl rfl (by decide) rfl rfl (pa_cons (pe_split (pv 0) (pe_str)) (pa_cons (pe_lst pa_nil) pa_nil)) (by rfl))
    (pss_cons (ps_if (pt_cmpR op_in_seq (pe_str) (pv 1) (by rfl)) (pss_cons (ps_set (i := 3) nd rfl (Or.inl rfl) (pe_bm PySem.F.plainAttrs_list PySem.F.slot_list_index PySem.F.type_list_index mt_index (pv 1) (pa_cons (pe_str) pa_nil)))
    (pss_cons (ps_par (i := 1) (j := 2) (by rfl) nd rfl rfl (by decide) rfl rfl (pa_cons (pe_slice sl_list (pv 1) po_none (po_some (pv 3))) (pa_cons (pe_slice sl_list (pv 1) (po_some (pe_op op_add (pv 3) (pe_int))) po_none) pa_nil)) (by rfl))
    (pss_one (ps_if (pt_not (pt_val (pe_f F_is_guard hr (pa_cons (pv 2) pa_nil)))) (pss_one (ps_ret (pe_non))) pss_nil)))) pss_nil)
    (pss_cons (ps_if (PW.pt (pw_or (pt_cmpR op_eq (pe_callB call_len_seq (by rfl) (T.z "len") (by decide +kernel) (pa_cons (pv 1) pa_nil)) (pe_int) (nomark _)) (pw_or1 (pt_cmpR (op_notIn_kd hF) (pe_ix ix_list (pv 1) (pe_int) (fun _ _ => rfl)) (pe_K rfl (T.g "FEWEST")) (by rfl))))) (pss_one (ps_ret (pe_non))) pss_nil)
    (pss_cons (ps_par (i := 4) (j := 5) (by rfl) nd rfl rfl (by decide) rfl rfl (pa_cons (pe_ix ix_list (pv 1) (pe_int) (fun _ _ => rfl)) (pa_cons (pe_slice sl_list (pv 1) (po_some (pe_int)) po_none) pa_nil)) (by rfl))
    (pss_cons (ps_if (PW.pt (pw_or (pt_not (pt_chain op_le op_le (pe_ix ix_kdict (pe_K rfl (T.g "FEWEST")) (pv 4) (fun _ _ => rfl)) (pe_callB call_len_seq (by rfl) (T.z "len") (by decide +kernel) (pa_cons (pv 5) pa_nil)) (pe_ix ix_kdict (pe_K rfl (T.g "MOST")) (pv 4) (fun _ _ => rfl)))) (pw_or1 (pt_cmpR op_ne (pe_lenSetN (by rfl) (by rfl) (T.z "len") (by rfl) (T.z "set") (pv 5)) (pe_callB call_len_seq (by rfl) (T.z "len") (by decide +kernel) (pa_cons (pv 5) pa_nil)) (nomark _))))) (pss_one (ps_ret (pe_non))) pss_nil)
    (pss_one (ps_ret (pe_ifExp (pt_val (pe_callB (cr_all rfl) (by rfl) (T.z "all") (by decide +kernel) (pa_cons (pe_lc (own := [("spot", 6)]) (g := gName 6) (tt := tYes) (by rfl) nd (pi_list (pv 5)) (blkOk_by (own := [("spot", 6)]) (N := N_parsed_deed) (sc := (defScope (top 23))) (by decide +kernel)) (fun _ _ _ _ _ => (pg_name (i := 6) nd rfl (Or.inl rfl))) (fun _ _ _ _ _ => pts_nil) (fun _ _ _ _ _ => (pe_cmpR (r := rIn K false) op_in_seq (pv 6) (pe_K rfl (T.g "PLACES")) (by rfl)))) pa_nil))) (StX.pe_makeR T.mkD F_Deed_init (hr.mono (by decide)) rfl (T.g "Deed") pass0 (pa_cons (pv 4) (pa_cons (pv 5) (pa_cons (pv 2) pa_nil)))) (pe_non)))))))))), ?_⟩
    refine seqG fun R hR => ?_
    simp only [tSeq, tRet, tRetN, tAsg, tIf, tIfS, tNext, tTest, tB, cx_K, cx_w, cx_nK, cx_nw, tOp, tUn, tVar, tC, tCons, tNil, tTup, tLst, tF, tM1, tCB, tAnd, tOr, tNot, tAndV, tOrV, tNotV, tChain, tFld, tPart, tNoPart, tSl, rU, rI0, rI, rEq, rNe, rIxD, rIxL, rIxT, rLen, rIsi, rLenQ, rTupOf, rIn, rSlL, rNewStrs, rAppend, rCat, gUnl, tDrop, wipe, List.foldl_cons, List.foldl_nil, StX.tMakeR, sFld, tLenSetN, rIndex, rSorted, rSortedT, rSetOfT, tPar, tPar3, tBM, rSum, rAll, rAny, tNever, gName, gTup, gCons, gNil, L2.start, List.map_cons, List.map_nil, List.length_cons, List.length_nil, List.cons_append, List.nil_append, List.set_cons_zero, List.set_cons_succ, List.getElem?_cons_zero, List.getElem?_cons_succ, Option.some.injEq, V.int.injEq, V.str.injEq, V.bl.injEq, V.ref.injEq, V.ty.injEq, List.cons.injEq, exists_and_left, exists_and_right, exists_eq_left, exists_eq_left', exists_eq, exists_eq', and_true, true_and, exists_const, List.replicate, Nat.sub_self, Nat.reduceAdd, Nat.reduceSub, if_true, if_false, Bool.false_eq_true, ite_true, ite_false, reduceIte]
    refine ⟨_, _, ⟨rfl, rfl⟩, _, _, .ty _, .base (.str _), _, k_ss, iteF ?_⟩
    rw [hR]; clear hR R
    refine seqG fun R hR => ?_
    simp only [tSeq, tRet, tRetN, tAsg, tIf, tIfS, tNext, tTest, tB, cx_K, cx_w, cx_nK, cx_nw, tOp, tUn, tVar, tC, tCons, tNil, tTup, tLst, tF, tM1, tCB, tAnd, tOr, tNot, tAndV, tOrV, tNotV, tChain, tFld, tPart, tNoPart, tSl, rU, rI0, rI, rEq, rNe, rIxD, rIxL, rIxT, rLen, rIsi, rLenQ, rTupOf, rIn, rSlL, rNewStrs, rAppend, rCat, gUnl, tDrop, wipe, List.foldl_cons, List.foldl_nil, StX.tMakeR, sFld, tLenSetN, rIndex, rSorted, rSortedT, rSetOfT, tPar, tPar3, tBM, rSum, rAll, rAny, tNever, gName, gTup, gCons, gNil, L2.start, List.map_cons, List.map_nil, List.length_cons, List.length_nil, List.cons_append, List.nil_append, List.set_cons_zero, List.set_cons_succ, List.getElem?_cons_zero, List.getElem?_cons_succ, Option.some.injEq, V.int.injEq, V.str.injEq, V.bl.injEq, V.ref.injEq, V.ty.injEq, List.cons.injEq, exists_and_left, exists_and_right, exists_eq_left, exists_eq_left', exists_eq, exists_eq', and_true, true_and, exists_const, List.replicate, Nat.sub_self, Nat.reduceAdd, Nat.reduceSub, if_true, if_false, Bool.false_eq_true, ite_true, ite_false, reduceIte]
    refine ⟨by rfl, by have := dds_len d hd; rw [sizeLine_eq]; omega, fun l hl => ?_⟩
    rw [dds_split d hd]
    obtain ⟨W, hW⟩ : ∃ W : List V, W = ([d.word] ++ d.spots.map Pl.txt ++ (if d.guard = true then [("if" : Str)] ++ d.gw else [])).map V.str := ⟨_, rfl⟩
    rw [← hW]
    refine ⟨by rw [sizeLine_eq]; decide, fun g hg => ?_⟩
    refine ⟨_, _, ⟨rfl, rfl⟩, ?_⟩
    have s1 : Same H (upd H l (.lst W)) := Same.upd (Same.refl H) hl
    have s2 : Same H (upd (upd H l (.lst W)) g (.lst [])) := Same.upd s1 hg
    have el : (upd (upd H l (.lst W)) g (.lst [])) l = some (.lst W) := upd_get upd_same hg
    have eg : (upd (upd H l (.lst W)) g (.lst [])) g = some (.lst []) := upd_same
    obtain ⟨H2, hH2⟩ : ∃ H2, H2 = upd (upd H l (.lst W)) g (.lst []) := ⟨_, rfl⟩
    rw [← hH2] at s2 el eg ⊢
    have hgn : H g = none := Same.free s1 hg
    clear hH2 hg s1
    rw [hR]; clear hR R
    refine seqG fun R hR => ?_
    have main : ∀ (wl gl : Addr) (o3 : Option V) (H1 : Hp), Same H H1 → SqL K H1 wl ((d.word :: d.spots.map Pl.txt).map V.str) → SqL K H1 gl (d.gw.map V.str) → H gl = none →
        R [some (V.str d.txt), some (.ref wl), some (.ref gl), o3, none, none, none] H1 := by
      intro wl gl o3 H1 sa hw hgl hgl0
      obtain ⟨u1, f1, r1⟩ := T.few d.turn
      obtain ⟨u2, f2, r2⟩ := T.most d.turn
      rw [hR]; clear hR R
      refine seqG fun R hR => ?_
      simp only [tSeq, tRet, tRetN, tAsg, tIf, tIfS, tNext, tTest, tB, cx_K, cx_w, cx_nK, cx_nw, tOp, tUn, tVar, tC, tCons, tNil, tTup, tLst, tF, tM1, tCB, tAnd, tOr, tNot, tAndV, tOrV, tNotV, tChain, tFld, tPart, tNoPart, tSl, rU, rI0, rI, rEq, rNe, rIxD, rIxL, rIxT, rLen, rIsi, rLenQ, rTupOf, rIn, rSlL, rNewStrs, rAppend, rCat, gUnl, tDrop, wipe, List.foldl_cons, List.foldl_nil, StX.tMakeR, sFld, tLenSetN, rIndex, rSorted, rSortedT, rSetOfT, tPar, tPar3, tBM, rSum, rAll, rAny, tNever, gName, gTup, gCons, gNil, L2.start, List.map_cons, List.map_nil, List.length_cons, List.length_nil, List.cons_append, List.nil_append, List.set_cons_zero, List.set_cons_succ, List.getElem?_cons_zero, List.getElem?_cons_succ, Option.some.injEq, V.int.injEq, V.str.injEq, V.bl.injEq, V.ref.injEq, V.ty.injEq, List.cons.injEq, exists_and_left, exists_and_right, exists_eq_left, exists_eq_left', exists_eq, exists_eq', and_true, true_and, exists_const, List.replicate, Nat.sub_self, Nat.reduceAdd, Nat.reduceSub, if_true, if_false, Bool.false_eq_true, ite_true, ite_false, reduceIte]
      refine ⟨_, .inl hw, rfl, iteF ⟨_, hw, V.str d.word, atI_nat (j := 0) rfl, d.word, rfl, _, f1, iteF ?_⟩⟩
      rw [hR]; clear hR R
      refine seqG fun R hR => ?_
      simp only [tSeq, tRet, tRetN, tAsg, tIf, tIfS, tNext, tTest, tB, cx_K, cx_w, cx_nK, cx_nw, tOp, tUn, tVar, tC, tCons, tNil, tTup, tLst, tF, tM1, tCB, tAnd, tOr, tNot, tAndV, tOrV, tNotV, tChain, tFld, tPart, tNoPart, tSl, rU, rI0, rI, rEq, rNe, rIxD, rIxL, rIxT, rLen, rIsi, rLenQ, rTupOf, rIn, rSlL, rNewStrs, rAppend, rCat, gUnl, tDrop, wipe, List.foldl_cons, List.foldl_nil, StX.tMakeR, sFld, tLenSetN, rIndex, rSorted, rSortedT, rSetOfT, tPar, tPar3, tBM, rSum, rAll, rAny, tNever, gName, gTup, gCons, gNil, L2.start, List.map_cons, List.map_nil, List.length_cons, List.length_nil, List.cons_append, List.nil_append, List.set_cons_zero, List.set_cons_succ, List.getElem?_cons_zero, List.getElem?_cons_succ, Option.some.injEq, V.int.injEq, V.str.injEq, V.bl.injEq, V.ref.injEq, V.ty.injEq, List.cons.injEq, exists_and_left, exists_and_right, exists_eq_left, exists_eq_left', exists_eq, exists_eq', and_true, true_and, exists_const, List.replicate, Nat.sub_self, Nat.reduceAdd, Nat.reduceSub, if_true, if_false, Bool.false_eq_true, ite_true, ite_false, reduceIte]
      refine ⟨_, hw, V.str d.word, atI_nat (j := 0) rfl, _, hw, fun q hq => ⟨_, _, ⟨rfl, rfl⟩, ?_⟩⟩
      have cut := dds_cut d hd
      rw [cut]
      have sb : Same H1 (upd H1 q (.lst ((d.spots.map Pl.txt).map V.str))) := Same.upd (Same.refl H1) hq
      have hs : SqL K (upd H1 q (.lst ((d.spots.map Pl.txt).map V.str))) q ((d.spots.map Pl.txt).map V.str) := .of upd_same
      obtain ⟨H3, hH3⟩ : ∃ H3, H3 = upd H1 q (.lst ((d.spots.map Pl.txt).map V.str)) := ⟨_, rfl⟩
      rw [← hH3] at sb hs ⊢
      rw [hR]; clear hR R
      refine seqG fun R hR => ?_
      simp only [tSeq, tRet, tRetN, tAsg, tIf, tIfS, tNext, tTest, tB, cx_K, cx_w, cx_nK, cx_nw, tOp, tUn, tVar, tC, tCons, tNil, tTup, tLst, tF, tM1, tCB, tAnd, tOr, tNot, tAndV, tOrV, tNotV, tChain, tFld, tPart, tNoPart, tSl, rU, rI0, rI, rEq, rNe, rIxD, rIxL, rIxT, rLen, rIsi, rLenQ, rTupOf, rIn, rSlL, rNewStrs, rAppend, rCat, gUnl, tDrop, wipe, List.foldl_cons, List.foldl_nil, StX.tMakeR, sFld, tLenSetN, rIndex, rSorted, rSortedT, rSetOfT, tPar, tPar3, tBM, rSum, rAll, rAny, tNever, gName, gTup, gCons, gNil, L2.start, List.map_cons, List.map_nil, List.length_cons, List.length_nil, List.cons_append, List.nil_append, List.set_cons_zero, List.set_cons_succ, List.getElem?_cons_zero, List.getElem?_cons_succ, Option.some.injEq, V.int.injEq, V.str.injEq, V.bl.injEq, V.ref.injEq, V.ty.injEq, List.cons.injEq, exists_and_left, exists_and_right, exists_eq_left, exists_eq_left', exists_eq, exists_eq', and_true, true_and, exists_const, List.replicate, Nat.sub_self, Nat.reduceAdd, Nat.reduceSub, if_true, if_false, Bool.false_eq_true, ite_true, ite_false, reduceIte]
      obtain ⟨b1, b2, b3, b4⟩ := dds_spots d hd
      have hlen : (((d.spots.map Pl.txt).map V.str).length : Int) = d.spots.length := by rw [List.length_map, List.length_map]
      have g1 : (if d.turn = true then (3 : Int) else 2) ≤ d.spots.length := by
        cases ht : d.turn with
        | false => rw [if_neg (by decide)]; omega
        | true => rw [if_pos rfl]; have := b3 ht; omega
      have g2 : (d.spots.length : Int) ≤ (if d.turn = true then (8 : Int) else 2) := by
        cases ht : d.turn with
        | false => rw [if_neg (by decide)]; have := b4 ht; omega
        | true => rw [if_pos rfl]; omega
      refine ⟨_, T.kdct 2 rfl f1 r1, _, .inl hs, _, rfl, ?_⟩
      rw [hlen, if_pos (decide_eq_true g1)]
      refine ⟨_, T.kdct 3 rfl f2 r2, _, rfl, ?_⟩
      rw [decide_eq_true g2]
      refine iteF ⟨_, hs, dds_nodup d hd, by rw [List.length_map]; unfold scanBound; omega, _, .inl hs, rfl, ?_⟩
      rw [if_neg (by rw [List.length_map, List.length_map]; simp)]
      rw [hR]; clear hR R
      simp only [tSeq, tRet, tRetN, tAsg, tIf, tIfS, tNext, tTest, tB, cx_K, cx_w, cx_nK, cx_nw, tOp, tUn, tVar, tC, tCons, tNil, tTup, tLst, tF, tM1, tCB, tAnd, tOr, tNot, tAndV, tOrV, tNotV, tChain, tFld, tPart, tNoPart, tSl, rU, rI0, rI, rEq, rNe, rIxD, rIxL, rIxT, rLen, rIsi, rLenQ, rTupOf, rIn, rSlL, rNewStrs, rAppend, rCat, gUnl, tDrop, wipe, List.foldl_cons, List.foldl_nil, StX.tMakeR, sFld, tLenSetN, rIndex, rSorted, rSortedT, rSetOfT, tPar, tPar3, tBM, rSum, rAll, rAny, tNever, gName, gTup, gCons, gNil, L2.start, List.map_cons, List.map_nil, List.length_cons, List.length_nil, List.cons_append, List.nil_append, List.set_cons_zero, List.set_cons_succ, List.getElem?_cons_zero, List.getElem?_cons_succ, Option.some.injEq, V.int.injEq, V.str.injEq, V.bl.injEq, V.ref.injEq, V.ty.injEq, List.cons.injEq, exists_and_left, exists_and_right, exists_eq_left, exists_eq_left', exists_eq, exists_eq', and_true, true_and, exists_const, List.replicate, Nat.sub_self, Nat.reduceAdd, Nat.reduceSub, if_true, if_false, Bool.false_eq_true, ite_true, ite_false, reduceIte]
      refine ⟨_, rfl, q, rfl, ⟨_, hs⟩, fun D hD => lcm walk_list (by rw [List.length_map, List.length_map, sizeLine_eq]; omega) hD (fun _ => V.bl true) (fun H sa => sa.seq hs) (fun i x H5 H' Q5 hi sa5 y hq => ?_) (fun H5 sa5 e5 => ?_)⟩
      · obtain ⟨rfl, hx⟩ := y
        rw [List.getElem?_map, List.getElem?_map] at hx
        obtain ⟨z, hz, rfl⟩ := Option.map_eq_some_iff.mp hx
        obtain ⟨pz, hpz, rfl⟩ := Option.map_eq_some_iff.mp hz
        have hin := pls_in pz (dds_pls d hd pz (List.mem_of_getElem? hpz))
        refine ⟨rfl, _, rfl, _, _, rfl, .inr (tupA_ok T.e.placesT H'), rfl, by decide +kernel, ?_⟩
        rw [if_neg (by decide), hin]
        exact hq _ (Same.refl _)
      · refine ⟨D, rfl, (List.range ((d.spots.map Pl.txt).map V.str).length).map fun _ => true, by rw [List.map_map]; exact .of e5, ?_⟩
        rw [if_pos (by simp)]
        intro x dx hx hdx ne
        have sf : Same H H5 := sa.trans (sb.trans sa5)
        have sl : Same H5 (upd (upd (upd H5 dx (.own x)) x (.ins (ga K "Deed") dx [])) x (.ins (ga K "Deed") dx [("word", .str d.word), ("spots", .ref q), ("guard", .ref gl)])) :=
          Same.updD (Same.updD (Same.updD (Same.refl H5) hdx) hx) hx
        refine ⟨x, dx, .str d.word, .ref q, .ref gl, rfl, upd_same, rfl, ?_⟩
        refine k _ x (sf.trans sl) (Same.free sf hx) ⟨dx, q, gl, upd_same, ?_, ?_, Same.free sa hq, hgl0⟩
        · have hs' := hs
          rw [List.map_map] at hs'
          exact sl.seq (sa5.seq hs')
        · exact sl.seq (sa5.seq (sb.seq hgl))
    simp only [tSeq, tRet, tRetN, tAsg, tIf, tIfS, tNext, tTest, tB, cx_K, cx_w, cx_nK, cx_nw, tOp, tUn, tVar, tC, tCons, tNil, tTup, tLst, tF, tM1, tCB, tAnd, tOr, tNot, tAndV, tOrV, tNotV, tChain, tFld, tPart, tNoPart, tSl, rU, rI0, rI, rEq, rNe, rIxD, rIxL, rIxT, rLen, rIsi, rLenQ, rTupOf, rIn, rSlL, rNewStrs, rAppend, rCat, gUnl, tDrop, wipe, List.foldl_cons, List.foldl_nil, StX.tMakeR, sFld, tLenSetN, rIndex, rSorted, rSortedT, rSetOfT, tPar, tPar3, tBM, rSum, rAll, rAny, tNever, gName, gTup, gCons, gNil, L2.start, List.map_cons, List.map_nil, List.length_cons, List.length_nil, List.cons_append, List.nil_append, List.set_cons_zero, List.set_cons_succ, List.getElem?_cons_zero, List.getElem?_cons_succ, Option.some.injEq, V.int.injEq, V.str.injEq, V.bl.injEq, V.ref.injEq, V.ty.injEq, List.cons.injEq, exists_and_left, exists_and_right, exists_eq_left, exists_eq_left', exists_eq, exists_eq', and_true, true_and, exists_const, List.replicate, Nat.sub_self, Nat.reduceAdd, Nat.reduceSub, if_true, if_false, Bool.false_eq_true, ite_true, ite_false, reduceIte]
    cases hgd : d.guard with
    | false =>
      have eW : W = (d.word :: d.spots.map Pl.txt).map V.str := by rw [hW, hgd]; simp
      have ni := dds_noif d hd hgd
      refine ⟨_, .inl (.of el), rfl, by rw [eW]; exact dds_flat d hd, ?_⟩
      rw [eW, ni, if_neg (by decide)]
      refine main l g none H2 s2 (by rw [← eW]; exact .of el) ?_ hgn
      have e2 : d.gw = [] := by unfold Dd.gw; rw [hgd]; rfl
      rw [e2]
      exact .of eg
    | true =>
      have ed := dds_guard d hd hgd
      subst ed
      have eW : W = [.str "swap", .str "i,j", .str "j,i", .str "if", .str "i", .str "<", .str "j"] := by rw [hW]; decide +kernel
      rw [eW] at el
      have qW : SqL K H2 l [.str "swap", .str "i,j", .str "j,i", .str "if", .str "i", .str "<", .str "j"] := .of el
      refine ⟨_, .inl qW, rfl, rfl, iteT ⟨.inl ⟨rfl, _, qW⟩, _, qW, rfl, rfl, 3, _, rfl, rfl, fun m z' hm e => ?_, _, qW, fun p hp => ⟨_, (Same.upd (Same.refl H2) hp).seq qW, fun p1 hp1 => ⟨_, _, ⟨rfl, rfl⟩, ?_⟩⟩⟩⟩
      · rcases m with _ | _ | _ | m
        · cases e; decide +kernel
        · cases e; decide +kernel
        · cases e; decide +kernel
        · omega
      · refine ⟨p1, rfl, .of upd_same, _, rfl, iteF (main p p1 _ _ (s2.trans (Same.upd (Same.upd (Same.refl H2) hp) hp1)) (.of (upd_get upd_same hp1)) (.of upd_same) (Same.free (s2.trans (Same.upd (Same.refl H2) hp)) hp1))⟩
end
end Sq

set_option Elab.async false
set_option linter.all false
set_option maxRecDepth 100000
set_option maxHeartbeats 4000000
/-! ## Walks: images and kinds -/
namespace Sq
open PySem PySem.Spec PyProof.Rows L2 He
abbrev Cell : Type := Int × Int
/-- the eight images, as the text writes them -/
def eight (n i j : Int) : List Cell := [(i, j), (j, i), (i, n - 1 - j), (n - 1 - j, i), (n - 1 - i, j), (j, n - 1 - i), (n - 1 - i, n - 1 - j), (n - 1 - j, n - 1 - i)]
def lexLt (a b : Cell) : Prop := a.1 < b.1 ∨ (a.1 = b.1 ∧ a.2 < b.2)
instance (a b : Cell) : Decidable (lexLt a b) := by unfold lexLt; infer_instance
/-- cs are the images of (i, j), ascending, each once -/
def Imgs (n i j : Int) (cs : List Cell) : Prop := (∀ c ∈ cs, c ∈ eight n i j) ∧ (∀ c ∈ eight n i j, c ∈ cs) ∧ cs.Pairwise lexLt
theorem lex_irrefl {a : Cell} : ¬ lexLt a a := by unfold lexLt; omega
theorem lex_asymm {a b : Cell} (h : lexLt a b) : ¬ lexLt b a := by unfold lexLt at *; omega
theorem sorted_uniq : ∀ {as bs : List Cell}, as.Pairwise lexLt → bs.Pairwise lexLt → (∀ c, c ∈ as ↔ c ∈ bs) → as = bs
  | [], [], _, _, _ => rfl
  | [], b :: bs, _, _, h => by have := (h b).mpr (List.mem_cons_self ..); cases this
  | a :: as, [], _, _, h => by have := (h a).mp (List.mem_cons_self ..); cases this
  | a :: as, b :: bs, ha, hb, h => by
    obtain ⟨a1, a2⟩ := List.pairwise_cons.mp ha
    obtain ⟨b1, b2⟩ := List.pairwise_cons.mp hb
    have e : a = b := by
      rcases List.mem_cons.mp ((h a).mp (List.mem_cons_self ..)) with e | m
      · exact e
      · rcases List.mem_cons.mp ((h b).mpr (List.mem_cons_self ..)) with e | m2
        · exact e.symm
        · exact absurd (a1 b m2) (lex_asymm (b1 a m))
    subst e
    have r : as = bs := sorted_uniq a2 b2 fun c => by
      have q := h c
      constructor
      · intro m
        rcases List.mem_cons.mp (q.mp (List.mem_cons_of_mem _ m)) with e | m2
        · subst e; exact absurd (a1 c m) lex_irrefl
        · exact m2
      · intro m
        rcases List.mem_cons.mp (q.mpr (List.mem_cons_of_mem _ m)) with e | m2
        · subst e; exact absurd (b1 c m) lex_irrefl
        · exact m2
    rw [r]
theorem Imgs.uniq {n i j : Int} {as bs : List Cell} (h : Imgs n i j as) (k : Imgs n i j bs) : as = bs :=
  sorted_uniq h.2.2 k.2.2 fun c => ⟨fun m => k.2.1 c (h.1 c m), fun m => h.2.1 c (k.1 c m)⟩
theorem Imgs.nodup {n i j : Int} {cs : List Cell} (h : Imgs n i j cs) : cs.Nodup := h.2.2.imp fun {a b} q e => by subst e; exact lex_irrefl q
theorem nodup_len {α : Type} [DecidableEq α] : ∀ {l m : List α}, l.Nodup → (∀ x ∈ l, x ∈ m) → l.length ≤ m.length
  | [], _, _, _ => Nat.zero_le _
  | x :: l, m, hn, h => by
    obtain ⟨h1, h2⟩ := List.nodup_cons.mp hn
    have := nodup_len (m := m.erase x) h2 fun y hy => (List.mem_erase_of_ne (fun e => h1 (by rw [← e]; exact hy))).mpr (h y (List.mem_cons_of_mem _ hy))
    have hx := h x (List.mem_cons_self ..)
    rw [List.length_erase_of_mem hx] at this
    have := List.length_pos_of_mem hx
    simp only [List.length_cons]
    omega
theorem Imgs.len {n i j : Int} {cs : List Cell} (h : Imgs n i j cs) : cs.length ≤ 8 := nodup_len (m := eight n i j) h.nodup h.1
theorem Imgs.pos {n i j : Int} {cs : List Cell} (h : Imgs n i j cs) : 0 < cs.length := List.length_pos_of_mem (h.2.1 (i, j) (List.mem_cons_self ..))
/-- a tuple of two numbers -/
def CellAt (H : Hp) (a : Addr) (c : Cell) : Prop := H a = some (.tup [.int c.1, .int c.2])
/-- a tuple of cells -/
def CellsAt (H : Hp) (t : Addr) (ps : List (Addr × Cell)) : Prop := (∃ o : Obj, o.dict = none ∧ H t = some (.frz o (.tup (ps.map fun p => V.ref p.1)))) ∧ ∀ p ∈ ps, CellAt H p.1 p.2
theorem CellsAt.same {H H' : Hp} {t : Addr} {ps : List (Addr × Cell)} (h : CellsAt H t ps) (s : Same H H') : CellsAt H' t ps := ⟨let ⟨o, d, e⟩ := h.1; ⟨o, d, s _ _ e⟩, fun p hp => s _ _ (h.2 p hp)⟩
theorem CellsAt.sq {K : PySem.W.Frag} {H : Hp} {t : Addr} {ps : List (Addr × Cell)} (h : CellsAt H t ps) : SqT K H t (ps.map fun p => V.ref p.1) := let ⟨o, _, e⟩ := h.1; .inl (.inr ⟨o, e⟩)
/-- tuple(l), the new tuple known to have no dict -/
theorem call_tupleF {X : Cx} : CallR X (.type "tuple") (fun xs H Q => ∃ p ys, xs = [.ref p] ∧ SqL X.K H p ys ∧ ∀ l o, H l = none → o.dict = none → Q (.ref l) (upd H l (.frz o (.tup ys)))) := by
  intro pins s σ H xs us Q I r h
  obtain ⟨p, ys, rfl, hq, q⟩ := h
  obtain ⟨u, rfl, rx⟩ := vals1 r
  cases rx
  obtain ⟨its, r', pl, hz⟩ := I.list hq
  have hlen := r'.length
  refine call_tuple_list pl.isList (fun h' kp => ?_) (by simp only [List.size_toArray] <;> omega)
  have I1 : Inv X pins σ H { s with heap := h' } := I.kept (t' := s.toks) kp
  have I2 := I1.laid (a := h'.objs.size) (o := .frz { cls := .type "tuple", data := .seq its.toArray } (.tup ys)) (h' := h'.push { cls := .type "tuple", data := .seq its.toArray }) (t' := s.toks) (fun b o e => Heap.get?_push_of_some _ e) (Nat.le_refl _)
    ⟨Heap.get?_push_size _ rfl, hz, its, r', IsTup.new _ _⟩
  exact ⟨.ref h'.objs.size, _, I2, rfl, q _ _ (I1.hok.fresh (Nat.le_refl _)) rfl⟩
/-- the four distances to the borders, ascending, and the kind -/
def KindOf (n i j : Int) (k : Int × Int × Int) : Prop := ∃ l m h u : Int, [l, m, h, u].Perm [i, j, n - 1 - i, n - 1 - j] ∧ l ≤ m ∧ m ≤ h ∧ h ≤ u ∧ k = (if 1 < l then 1 else l, if 2 < m - l then 2 else m - l, if 3 < h - m then 3 else h - m)
theorem code2 (B x y : Int) : TS.code B [x, y] = x * B + y := by
  show x * B ^ 1 + (y * B ^ 0 + 0) = x * B + y
  rw [Int.pow_succ, Int.pow_zero, Int.one_mul, Int.mul_one, Int.add_zero]
theorem lex_of_code {B : Int} {a b : Cell} (h : TS.code B [a.1, a.2] ≤ TS.code B [b.1, b.2]) (ne : a ≠ b) (ha : 0 ≤ a.2 ∧ a.2 < B) (hb : 0 ≤ b.2 ∧ b.2 < B) : lexLt a b := by
  rw [code2, code2] at h
  unfold lexLt
  rcases Int.lt_trichotomy a.1 b.1 with q | q | q
  · exact .inl q
  · rw [q] at h
    rcases Int.lt_trichotomy a.2 b.2 with r | r | r
    · exact .inr ⟨q, r⟩
    · exact absurd (Prod.ext q r) ne
    · omega
  · have : b.1 * B + B ≤ a.1 * B := by
      have : (b.1 + 1) * B ≤ a.1 * B := Int.mul_le_mul_of_nonneg_right (by omega) (by omega)
      rw [Int.add_mul, Int.one_mul] at this
      exact this
    omega
/-- the pairs of a place and a cell, from those of a place and a list -/
def cellOf (q : Addr × List Int) : Addr × Cell := (q.1, (q.2.getD 0 0, q.2.getD 1 0))
theorem imgs_of {n i j : Int} {bs : List (Addr × Cell)} {L L' : List (Addr × List Int)} (he : bs.map (·.2) = eight n i j) (hbd : ∀ c ∈ eight n i j, 0 ≤ c.1 ∧ c.1 < n ∧ 0 ≤ c.2 ∧ c.2 < n)
    (hL : ∀ p ∈ L, p ∈ bs.map fun q => (q.1, [q.2.1, q.2.2])) (hL2 : ∀ p ∈ bs.map (fun q => (q.1, [q.2.1, q.2.2])), p.2 ∈ L.map (·.2)) (hpm : L'.Perm L) (hnd : (L'.map (·.2)).Nodup)
    (hpw : L'.Pairwise fun q r => TS.code n q.2 ≤ TS.code n r.2) : Imgs n i j ((L'.map cellOf).map (·.2)) ∧ ∀ p ∈ L'.map cellOf, p ∈ bs := by
  have hm : ∀ p ∈ L', ∃ q ∈ bs, p = (q.1, [q.2.1, q.2.2]) := fun p hp => by
    obtain ⟨q, hq, e⟩ := List.mem_map.mp (hL p (hpm.mem_iff.mp hp))
    exact ⟨q, hq, e.symm⟩
  have hc : ∀ p ∈ L'.map cellOf, p ∈ bs := fun p hp => by
    obtain ⟨r, hr, rfl⟩ := List.mem_map.mp hp
    obtain ⟨q, hq, rfl⟩ := hm r hr
    exact hq
  refine ⟨⟨fun c h => ?_, fun c h => ?_, ?_⟩, hc⟩
  · obtain ⟨p, hp, rfl⟩ := List.mem_map.mp h
    rw [← he]
    exact List.mem_map_of_mem (hc p hp)
  · rw [← he] at h
    obtain ⟨q, hq, rfl⟩ := List.mem_map.mp h
    have := hL2 _ (List.mem_map_of_mem (f := fun q : Addr × Cell => (q.1, [q.2.1, q.2.2])) hq)
    obtain ⟨p, hp, e⟩ := List.mem_map.mp this
    have hp' := hpm.mem_iff.mpr hp
    refine List.mem_map.mpr ⟨cellOf p, List.mem_map_of_mem hp', ?_⟩
    unfold cellOf
    rw [e]
    rfl
  · rw [List.map_map, List.pairwise_map]
    have hnd2 : L'.Pairwise fun a b => a.2 ≠ b.2 := List.pairwise_map.mp hnd
    have both := hpw.and hnd2
    refine List.Pairwise.imp_of_mem (fun {a b} ma mb z => ?_) both
    obtain ⟨q, hq, rfl⟩ := hm a ma
    obtain ⟨r, hr, rfl⟩ := hm b mb
    have b1 := hbd q.2 (by rw [← he]; exact List.mem_map_of_mem hq)
    have b2 := hbd r.2 (by rw [← he]; exact List.mem_map_of_mem hr)
    exact lex_of_code (a := q.2) (b := r.2) z.1 (fun e => z.2 (by rw [e])) ⟨b1.2.2.1, b1.2.2.2⟩ ⟨b2.2.2.1, b2.2.2.2⟩
section
variable {P : Program} {w : World} {K : PySem.W.Frag} {mg : Str → Option Value} {base : Heap}
def spImagesOf : Sp := fun vs H Q _ => ∃ (n i j : Int) (p : Addr), vs = [.int n, .ref p] ∧ CellAt H p (i, j) ∧ 0 ≤ i ∧ i < n ∧ 0 ≤ j ∧ j < n ∧ ∀ H' t ps, Same H H' → Imgs n i j (ps.map (·.2)) → CellsAt H' t ps → Q (.ref t) H'
abbrev N_images_of : List Str := ["size", "cell", "row", "column", "far_row", "far_column", "found"]
theorem sc_images_of : FnScope N_images_of ["size", "cell"] (defScope (top 58)) := ⟨rfl, rfl, rfl, by decide +kernel, rfl, by decide +kernel, by decide +kernel⟩
theorem F_images_of (T : TX w K mg) : Fn P w K mg base 1 "images_of" (spImagesOf) := by
  obtain ⟨fd, F⟩ := T.fi 17
  have nd := sc_images_of.nd
  refine ⟨_, raw0 F sc_images_of (fun vs H Q E h => ?_) (fun _ _ _ _ _ _ us hl => match us, hl with | [_, _], _ => rfl) (fun cdv A outer s H vs Q E hr h => ?_), T.g "images_of", F.kp⟩
  · obtain ⟨n, i, j, p, rfl, hp, h1, h2, h3, h4, k⟩ := h
    rfl
  · obtain ⟨n, i, j, p, rfl, hp, h1, h2, h3, h4, k⟩ := h
    refine ⟨_, (pss_cons (ps_asg (pv 1) (pg_tup (n := 2) rfl (pgs_cons (pg_name (i := 2) nd rfl (Or.inl rfl)) (pgs_cons (pg_name (i := 3) nd rfl (Or.inl rfl)) pgs_nil))))
    (pss_cons (ps_par (i := 4) (j := 5) (by rfl) nd rfl rfl (by decide) rfl rfl (pa_cons (pe_op op_sub (pe_op op_sub (pv 0) (pe_int)) (pv 2)) (pa_cons (pe_op op_sub (pe_op op_sub (pv 0) (pe_int)) (pv 3)) pa_nil)) (by rfl))
    (pss_cons (ps_set (i := 6) nd rfl (Or.inl rfl) (pe_lst (pa_cons (pe_tup (pa_cons (pv 2) (pa_cons (pv 3) pa_nil))) (pa_cons (pe_tup (pa_cons (pv 3) (pa_cons (pv 2) pa_nil))) (pa_cons (pe_tup (pa_cons (pv 2) (pa_cons (pv 5) pa_nil))) (pa_cons (pe_tup (pa_cons (pv 5) (pa_cons (pv 2) pa_nil))) pa_nil))))))
    (pss_cons (ps_set (i := 6) nd rfl (Or.inl rfl) (pe_op op_cat (pv 6) (pe_lst (pa_cons (pe_tup (pa_cons (pv 4) (pa_cons (pv 3) pa_nil))) (pa_cons (pe_tup (pa_cons (pv 3) (pa_cons (pv 4) pa_nil))) (pa_cons (pe_tup (pa_cons (pv 4) (pa_cons (pv 5) pa_nil))) (pa_cons (pe_tup (pa_cons (pv 5) (pa_cons (pv 4) pa_nil))) pa_nil)))))))
    (pss_one (ps_ret (pe_callTy call_tupleF (by rfl) (T.z "tuple") (by decide +kernel) (pa_cons (pe_callB (cr_sortedT (by rfl)) (by rfl) (T.z "sorted") (by decide +kernel) (pa_cons (pe_callTy (cr_setOfT (by rfl) hr.units) (by rfl) (T.z "set") (by decide +kernel) (pa_cons (pv 6) pa_nil)) pa_nil)) pa_nil)))))))), ?_⟩
    refine seqG fun R hR => ?_
    simp only [tSeq, tRet, tRetN, tAsg, tIf, tIfS, tNext, tTest, tB, cx_K, cx_w, cx_nK, cx_nw, tOp, tUn, tVar, tC, tCons, tNil, tTup, tLst, tF, tM1, tCB, tAnd, tOr, tNot, tAndV, tOrV, tNotV, tChain, tFld, tPart, tNoPart, tSl, rU, rI0, rI, rEq, rNe, rIxD, rIxL, rIxT, rLen, rIsi, rLenQ, rTupOf, rIn, rSlL, rNewStrs, rAppend, rCat, gUnl, tDrop, wipe, List.foldl_cons, List.foldl_nil, StX.tMakeR, sFld, tLenSetN, rIndex, rSorted, rSortedT, rSetOfT, tPar, tPar3, tBM, rSum, rAll, rAny, tNever, gName, gTup, gCons, gNil, L2.start, List.map_cons, List.map_nil, List.length_cons, List.length_nil, List.cons_append, List.nil_append, List.set_cons_zero, List.set_cons_succ, List.getElem?_cons_zero, List.getElem?_cons_succ, Option.some.injEq, V.int.injEq, V.str.injEq, V.bl.injEq, V.ref.injEq, V.ty.injEq, List.cons.injEq, exists_and_left, exists_and_right, exists_eq_left, exists_eq_left', exists_eq, exists_eq', and_true, true_and, exists_const, List.replicate, Nat.sub_self, Nat.reduceAdd, Nat.reduceSub, if_true, if_false, Bool.false_eq_true, ite_true, ite_false, reduceIte]
    refine ⟨_, .of hp, rfl, _, _, rfl, _, _, rfl, rfl, ?_⟩
    rw [hR]; clear hR R
    refine seqG fun R hR => ?_
    simp only [tSeq, tRet, tRetN, tAsg, tIf, tIfS, tNext, tTest, tB, cx_K, cx_w, cx_nK, cx_nw, tOp, tUn, tVar, tC, tCons, tNil, tTup, tLst, tF, tM1, tCB, tAnd, tOr, tNot, tAndV, tOrV, tNotV, tChain, tFld, tPart, tNoPart, tSl, rU, rI0, rI, rEq, rNe, rIxD, rIxL, rIxT, rLen, rIsi, rLenQ, rTupOf, rIn, rSlL, rNewStrs, rAppend, rCat, gUnl, tDrop, wipe, List.foldl_cons, List.foldl_nil, StX.tMakeR, sFld, tLenSetN, rIndex, rSorted, rSortedT, rSetOfT, tPar, tPar3, tBM, rSum, rAll, rAny, tNever, gName, gTup, gCons, gNil, L2.start, List.map_cons, List.map_nil, List.length_cons, List.length_nil, List.cons_append, List.nil_append, List.set_cons_zero, List.set_cons_succ, List.getElem?_cons_zero, List.getElem?_cons_succ, Option.some.injEq, V.int.injEq, V.str.injEq, V.bl.injEq, V.ref.injEq, V.ty.injEq, List.cons.injEq, exists_and_left, exists_and_right, exists_eq_left, exists_eq_left', exists_eq, exists_eq', and_true, true_and, exists_const, List.replicate, Nat.sub_self, Nat.reduceAdd, Nat.reduceSub, if_true, if_false, Bool.false_eq_true, ite_true, ite_false, reduceIte]
    refine ⟨_, _, ⟨rfl, rfl⟩, ?_⟩
    rw [hR]; clear hR R
    refine seqG fun R hR => ?_
    simp only [tSeq, tRet, tRetN, tAsg, tIf, tIfS, tNext, tTest, tB, cx_K, cx_w, cx_nK, cx_nw, tOp, tUn, tVar, tC, tCons, tNil, tTup, tLst, tF, tM1, tCB, tAnd, tOr, tNot, tAndV, tOrV, tNotV, tChain, tFld, tPart, tNoPart, tSl, rU, rI0, rI, rEq, rNe, rIxD, rIxL, rIxT, rLen, rIsi, rLenQ, rTupOf, rIn, rSlL, rNewStrs, rAppend, rCat, gUnl, tDrop, wipe, List.foldl_cons, List.foldl_nil, StX.tMakeR, sFld, tLenSetN, rIndex, rSorted, rSortedT, rSetOfT, tPar, tPar3, tBM, rSum, rAll, rAny, tNever, gName, gTup, gCons, gNil, L2.start, List.map_cons, List.map_nil, List.length_cons, List.length_nil, List.cons_append, List.nil_append, List.set_cons_zero, List.set_cons_succ, List.getElem?_cons_zero, List.getElem?_cons_succ, Option.some.injEq, V.int.injEq, V.str.injEq, V.bl.injEq, V.ref.injEq, V.ty.injEq, List.cons.injEq, exists_and_left, exists_and_right, exists_eq_left, exists_eq_left', exists_eq, exists_eq', and_true, true_and, exists_const, List.replicate, Nat.sub_self, Nat.reduceAdd, Nat.reduceSub, if_true, if_false, Bool.false_eq_true, ite_true, ite_false, reduceIte]
    refine ⟨by rw [sizeLine_eq]; decide, fun p1 q1 => ?_⟩
    obtain ⟨H1, e1, s1, c1⟩ : ∃ H1, upd H p1 (.tup [.int (i), .int (j)]) = H1 ∧ Same H H1 ∧ CellAt H1 p1 (i, j) := ⟨_, rfl, Same.upd (Same.refl H) q1, upd_same⟩
    rw [e1]
    refine ⟨by rw [sizeLine_eq]; decide, fun p2 q2 => ?_⟩
    obtain ⟨H2, e2, s2, c2⟩ : ∃ H2, upd H1 p2 (.tup [.int (j), .int (i)]) = H2 ∧ Same H1 H2 ∧ CellAt H2 p2 (j, i) := ⟨_, rfl, Same.upd (Same.refl H1) q2, upd_same⟩
    rw [e2]
    refine ⟨by rw [sizeLine_eq]; decide, fun p3 q3 => ?_⟩
    obtain ⟨H3, e3, s3, c3⟩ : ∃ H3, upd H2 p3 (.tup [.int (i), .int (n - 1 - j)]) = H3 ∧ Same H2 H3 ∧ CellAt H3 p3 (i, n - 1 - j) := ⟨_, rfl, Same.upd (Same.refl H2) q3, upd_same⟩
    rw [e3]
    refine ⟨by rw [sizeLine_eq]; decide, fun p4 q4 => ?_⟩
    obtain ⟨H4, e4, s4, c4⟩ : ∃ H4, upd H3 p4 (.tup [.int (n - 1 - j), .int (i)]) = H4 ∧ Same H3 H4 ∧ CellAt H4 p4 (n - 1 - j, i) := ⟨_, rfl, Same.upd (Same.refl H3) q4, upd_same⟩
    rw [e4]
    refine ⟨by rw [sizeLine_eq]; decide, fun la qa => ?_⟩
    obtain ⟨Ha, ea, sa, ca⟩ : ∃ Ha, upd H4 la (.lst [.ref p1, .ref p2, .ref p3, .ref p4]) = Ha ∧ Same H4 Ha ∧ Ha la = some (.lst [.ref p1, .ref p2, .ref p3, .ref p4]) := ⟨_, rfl, Same.upd (Same.refl H4) qa, upd_same⟩
    rw [ea]
    rw [hR]; clear hR R
    refine seqG fun R hR => ?_
    simp only [tSeq, tRet, tRetN, tAsg, tIf, tIfS, tNext, tTest, tB, cx_K, cx_w, cx_nK, cx_nw, tOp, tUn, tVar, tC, tCons, tNil, tTup, tLst, tF, tM1, tCB, tAnd, tOr, tNot, tAndV, tOrV, tNotV, tChain, tFld, tPart, tNoPart, tSl, rU, rI0, rI, rEq, rNe, rIxD, rIxL, rIxT, rLen, rIsi, rLenQ, rTupOf, rIn, rSlL, rNewStrs, rAppend, rCat, gUnl, tDrop, wipe, List.foldl_cons, List.foldl_nil, StX.tMakeR, sFld, tLenSetN, rIndex, rSorted, rSortedT, rSetOfT, tPar, tPar3, tBM, rSum, rAll, rAny, tNever, gName, gTup, gCons, gNil, L2.start, List.map_cons, List.map_nil, List.length_cons, List.length_nil, List.cons_append, List.nil_append, List.set_cons_zero, List.set_cons_succ, List.getElem?_cons_zero, List.getElem?_cons_succ, Option.some.injEq, V.int.injEq, V.str.injEq, V.bl.injEq, V.ref.injEq, V.ty.injEq, List.cons.injEq, exists_and_left, exists_and_right, exists_eq_left, exists_eq_left', exists_eq, exists_eq', and_true, true_and, exists_const, List.replicate, Nat.sub_self, Nat.reduceAdd, Nat.reduceSub, if_true, if_false, Bool.false_eq_true, ite_true, ite_false, reduceIte]
    refine ⟨by rw [sizeLine_eq]; decide, fun p5 q5 => ?_⟩
    obtain ⟨H5, e5, s5, c5⟩ : ∃ H5, upd Ha p5 (.tup [.int (n - 1 - i), .int (j)]) = H5 ∧ Same Ha H5 ∧ CellAt H5 p5 (n - 1 - i, j) := ⟨_, rfl, Same.upd (Same.refl Ha) q5, upd_same⟩
    rw [e5]
    refine ⟨by rw [sizeLine_eq]; decide, fun p6 q6 => ?_⟩
    obtain ⟨H6, e6, s6, c6⟩ : ∃ H6, upd H5 p6 (.tup [.int (j), .int (n - 1 - i)]) = H6 ∧ Same H5 H6 ∧ CellAt H6 p6 (j, n - 1 - i) := ⟨_, rfl, Same.upd (Same.refl H5) q6, upd_same⟩
    rw [e6]
    refine ⟨by rw [sizeLine_eq]; decide, fun p7 q7 => ?_⟩
    obtain ⟨H7, e7, s7, c7⟩ : ∃ H7, upd H6 p7 (.tup [.int (n - 1 - i), .int (n - 1 - j)]) = H7 ∧ Same H6 H7 ∧ CellAt H7 p7 (n - 1 - i, n - 1 - j) := ⟨_, rfl, Same.upd (Same.refl H6) q7, upd_same⟩
    rw [e7]
    refine ⟨by rw [sizeLine_eq]; decide, fun p8 q8 => ?_⟩
    obtain ⟨H8, e8, s8, c8⟩ : ∃ H8, upd H7 p8 (.tup [.int (n - 1 - j), .int (n - 1 - i)]) = H8 ∧ Same H7 H8 ∧ CellAt H8 p8 (n - 1 - j, n - 1 - i) := ⟨_, rfl, Same.upd (Same.refl H7) q8, upd_same⟩
    rw [e8]
    refine ⟨by rw [sizeLine_eq]; decide, fun lb qb => ?_⟩
    obtain ⟨Hb, eb, sb, cb⟩ : ∃ Hb, upd H8 lb (.lst [.ref p5, .ref p6, .ref p7, .ref p8]) = Hb ∧ Same H8 Hb ∧ Hb lb = some (.lst [.ref p5, .ref p6, .ref p7, .ref p8]) := ⟨_, rfl, Same.upd (Same.refl H8) qb, upd_same⟩
    rw [eb]
    have t8 := sb
    have t7 := s8.trans t8
    have t6 := s7.trans t7
    have t5 := s6.trans t6
    have ta := s5.trans t5
    have t4 := sa.trans ta
    have t3 := s4.trans t4
    have t2 := s3.trans t3
    have t1 := s2.trans t2
    have t0 := s1.trans t1
    refine ⟨_, ta _ _ ca, _, cb, by show 4 + 4 ≤ sizeLine; rw [sizeLine_eq]; decide, fun lc qc => ?_⟩
    obtain ⟨Hc, ec, sc, cc⟩ : ∃ Hc, upd Hb lc (.lst ([.ref p1, .ref p2, .ref p3, .ref p4] ++ [.ref p5, .ref p6, .ref p7, .ref p8])) = Hc ∧ Same Hb Hc ∧ Hc lc = some (.lst ([.ref p1, .ref p2, .ref p3, .ref p4] ++ [.ref p5, .ref p6, .ref p7, .ref p8])) := ⟨_, rfl, Same.upd (Same.refl Hb) qc, upd_same⟩
    rw [ec]
    rw [hR]; clear hR R
    simp only [tSeq, tRet, tRetN, tAsg, tIf, tIfS, tNext, tTest, tB, cx_K, cx_w, cx_nK, cx_nw, tOp, tUn, tVar, tC, tCons, tNil, tTup, tLst, tF, tM1, tCB, tAnd, tOr, tNot, tAndV, tOrV, tNotV, tChain, tFld, tPart, tNoPart, tSl, rU, rI0, rI, rEq, rNe, rIxD, rIxL, rIxT, rLen, rIsi, rLenQ, rTupOf, rIn, rSlL, rNewStrs, rAppend, rCat, gUnl, tDrop, wipe, List.foldl_cons, List.foldl_nil, StX.tMakeR, sFld, tLenSetN, rIndex, rSorted, rSortedT, rSetOfT, tPar, tPar3, tBM, rSum, rAll, rAny, tNever, gName, gTup, gCons, gNil, L2.start, List.map_cons, List.map_nil, List.length_cons, List.length_nil, List.cons_append, List.nil_append, List.set_cons_zero, List.set_cons_succ, List.getElem?_cons_zero, List.getElem?_cons_succ, Option.some.injEq, V.int.injEq, V.str.injEq, V.bl.injEq, V.ref.injEq, V.ty.injEq, List.cons.injEq, exists_and_left, exists_and_right, exists_eq_left, exists_eq_left', exists_eq, exists_eq', and_true, true_and, exists_const, List.replicate, Nat.sub_self, Nat.reduceAdd, Nat.reduceSub, if_true, if_false, Bool.false_eq_true, ite_true, ite_false, reduceIte]
    obtain ⟨bs, hbs⟩ : ∃ bs : List (Addr × Cell), bs = [(p1, (i, j)), (p2, (j, i)), (p3, (i, n - 1 - j)), (p4, (n - 1 - j, i)), (p5, (n - 1 - i, j)), (p6, (j, n - 1 - i)), (p7, (n - 1 - i, n - 1 - j)), (p8, (n - 1 - j, n - 1 - i))] := ⟨_, rfl⟩
    have hb : ∀ q ∈ bs, CellAt Hc q.1 q.2 := by
      rw [hbs]
      intro q hq
      simp only [List.mem_cons, List.not_mem_nil, or_false] at hq
      rcases hq with rfl | rfl | rfl | rfl | rfl | rfl | rfl | rfl
      · exact sc _ _ (t1 _ _ c1)
      · exact sc _ _ (t2 _ _ c2)
      · exact sc _ _ (t3 _ _ c3)
      · exact sc _ _ (t4 _ _ c4)
      · exact sc _ _ (t5 _ _ c5)
      · exact sc _ _ (t6 _ _ c6)
      · exact sc _ _ (t7 _ _ c7)
      · exact sc _ _ (t8 _ _ c8)
    have he : bs.map (·.2) = eight n i j := by rw [hbs]; rfl
    have hbd : ∀ c ∈ eight n i j, 0 ≤ c.1 ∧ c.1 < n ∧ 0 ≤ c.2 ∧ c.2 < n := by
      intro c hc
      unfold eight at hc
      simp only [List.mem_cons, List.not_mem_nil, or_false] at hc
      rcases hc with rfl | rfl | rfl | rfl | rfl | rfl | rfl | rfl <;> dsimp only <;> omega
    refine ⟨bs.map fun q => (q.1, [q.2.1, q.2.2]), ?_, ?_, ?_, fun a L ha hL hL2 => ?_⟩
    · rw [hbs]
      exact .of cc
    · intro p hp
      obtain ⟨q, hq, rfl⟩ := List.mem_map.mp hp
      exact .of (hb q hq)
    · rw [hbs]; show (8 : Nat) < 64; decide
    have sd : Same Hc (upd Hc a (SetTO P w a L)) := Same.upd (Same.refl Hc) ha
    have fL : ∀ p ∈ L, ∃ q ∈ bs, p = (q.1, [q.2.1, q.2.2]) := fun p hp => by
      obtain ⟨q, hq, e⟩ := List.mem_map.mp (hL p hp)
      exact ⟨q, hq, e.symm⟩
    refine ⟨L, upd_same, fun p hp => ?_, 2, by decide, n, fun p hp => ?_, fun L' pl hpm hnd hlt hpw hpl => ?_⟩
    · obtain ⟨q, hq, rfl⟩ := fL p hp
      exact .of (sd _ _ (hb q hq))
    · obtain ⟨q, hq, rfl⟩ := fL p hp
      have := hbd q.2 (by rw [← he]; exact List.mem_map_of_mem hq)
      refine ⟨rfl, fun m hm => ?_⟩
      simp only [List.mem_cons, List.not_mem_nil, or_false] at hm
      rcases hm with rfl | rfl <;> omega
    obtain ⟨im, sub⟩ := imgs_of he hbd hL hL2 hpm hnd hpw
    have se : Same (upd Hc a (SetTO P w a L)) (upd (upd Hc a (SetTO P w a L)) pl (.lst (L'.map fun q => V.ref q.1))) := Same.upd (Same.refl _) hpl
    refine ⟨_, .of upd_same, fun t ob ht hob => ?_⟩
    have sf : Same (upd (upd Hc a (SetTO P w a L)) pl (.lst (L'.map fun q => V.ref q.1))) (upd (upd (upd Hc a (SetTO P w a L)) pl (.lst (L'.map fun q => V.ref q.1))) t (.frz ob (.tup (L'.map fun q => V.ref q.1)))) := Same.upd (Same.refl _) ht
    have sall := ((t0.trans sc).trans sd).trans (se.trans sf)
    refine k _ t (L'.map cellOf) sall im ⟨⟨ob, hob, ?_⟩, fun p hp => ?_⟩
    · rw [List.map_map]
      exact upd_same
    · exact sf _ _ (se _ _ (sd _ _ (hb p (sub p hp))))
def spFoundKind : Sp := fun vs H Q _ => ∃ (n i j : Int) (p : Addr), vs = [.int n, .ref p] ∧ CellAt H p (i, j) ∧ ∀ H' t k, Same H H' → H t = none → KindOf n i j k → H' t = some (.tup [.int k.1, .int k.2.1, .int k.2.2]) → Q (.ref t) H'
abbrev N_found_kind : List Str := ["size", "cell", "row", "column", "low", "middle", "high", "top"]
theorem sc_found_kind : FnScope N_found_kind ["size", "cell"] (defScope (top 59)) := ⟨rfl, rfl, rfl, by decide +kernel, rfl, by decide +kernel, by decide +kernel⟩
theorem F_found_kind (T : TX w K mg) : Fn P w K mg base 1 "found_kind" (spFoundKind) := by
  obtain ⟨fd, F⟩ := T.fi 18
  have nd := sc_found_kind.nd
  refine ⟨_, raw0 F sc_found_kind (fun vs H Q E h => ?_) (fun _ _ _ _ _ _ us hl => match us, hl with | [_, _], _ => rfl) (fun cdv A outer s H vs Q E hr h => ?_), T.g "found_kind", F.kp⟩
  · obtain ⟨n, i, j, p, rfl, hp, k⟩ := h
    rfl
  · obtain ⟨n, i, j, p, rfl, hp, k⟩ := h
    refine ⟨_, (pss_cons (ps_asg (pv 1) (pg_tup (n := 2) rfl (pgs_cons (pg_name (i := 2) nd rfl (Or.inl rfl)) (pgs_cons (pg_name (i := 3) nd rfl (Or.inl rfl)) pgs_nil))))
    (pss_cons (ps_asg (pe_callB cr_sorted (by rfl) (T.z "sorted") (by decide +kernel) (pa_cons (pe_lst (pa_cons (pv 2) (pa_cons (pv 3) (pa_cons (pe_op op_sub (pe_op op_sub (pv 0) (pe_int)) (pv 2)) (pa_cons (pe_op op_sub (pe_op op_sub (pv 0) (pe_int)) (pv 3)) pa_nil))))) pa_nil)) (pg_unl (n := 4) rfl (pgs_cons (pg_name (i := 4) nd rfl (Or.inl rfl)) (pgs_cons (pg_name (i := 5) nd rfl (Or.inl rfl)) (pgs_cons (pg_name (i := 6) nd rfl (Or.inl rfl)) (pgs_cons (pg_name (i := 7) nd rfl (Or.inl rfl)) pgs_nil))))))
    (pss_one (ps_ret (pe_tup (pa_cons (pe_callB (call_min2 rfl) (by rfl) (T.z "min") (by decide +kernel) (pa_cons (pv 4) (pa_cons (pe_int) pa_nil))) (pa_cons (pe_callB (call_min2 rfl) (by rfl) (T.z "min") (by decide +kernel) (pa_cons (pe_op op_sub (pv 5) (pv 4)) (pa_cons (pe_int) pa_nil))) (pa_cons (pe_callB (call_min2 rfl) (by rfl) (T.z "min") (by decide +kernel) (pa_cons (pe_op op_sub (pv 6) (pv 5)) (pa_cons (pe_int) pa_nil))) pa_nil)))))))), ?_⟩
    simp only [tSeq, tRet, tRetN, tAsg, tIf, tIfS, tNext, tTest, tB, cx_K, cx_w, cx_nK, cx_nw, tOp, tUn, tVar, tC, tCons, tNil, tTup, tLst, tF, tM1, tCB, tAnd, tOr, tNot, tAndV, tOrV, tNotV, tChain, tFld, tPart, tNoPart, tSl, rU, rI0, rI, rEq, rNe, rIxD, rIxL, rIxT, rLen, rIsi, rLenQ, rTupOf, rIn, rSlL, rNewStrs, rAppend, rCat, gUnl, tDrop, wipe, List.foldl_cons, List.foldl_nil, StX.tMakeR, sFld, tLenSetN, rIndex, rSorted, rSortedT, rSetOfT, tPar, tPar3, tBM, rSum, rAll, rAny, tNever, gName, gTup, gCons, gNil, L2.start, List.map_cons, List.map_nil, List.length_cons, List.length_nil, List.cons_append, List.nil_append, List.set_cons_zero, List.set_cons_succ, List.getElem?_cons_zero, List.getElem?_cons_succ, Option.some.injEq, V.int.injEq, V.str.injEq, V.bl.injEq, V.ref.injEq, V.ty.injEq, List.cons.injEq, exists_and_left, exists_and_right, exists_eq_left, exists_eq_left', exists_eq, exists_eq', and_true, true_and, exists_const, List.replicate, Nat.sub_self, Nat.reduceAdd, Nat.reduceSub, if_true, if_false, Bool.false_eq_true, ite_true, ite_false, reduceIte]
    refine ⟨_, .of hp, rfl, _, _, rfl, _, _, rfl, rfl, _, rfl, _, rfl, by rw [sizeLine_eq]; decide, fun l hl => ?_⟩
    refine ⟨[i, j, n - 1 - i, n - 1 - j], .of upd_same, by show (4 : Nat) < 64; decide, fun ns r pm pw hr2 => ?_⟩
    obtain ⟨a, b, c, d, rfl⟩ : ∃ a b c d : Int, ns = [a, b, c, d] := by
      have := pm.length_eq
      match ns, this with
      | [a, b, c, d], _ => exact ⟨a, b, c, d, rfl⟩
    refine ⟨_, .of upd_same, rfl, _, _, rfl, _, _, rfl, _, _, rfl, _, _, rfl, rfl, _, _, ⟨rfl, rfl⟩, _, rfl, _, rfl, _, _, ⟨rfl, rfl⟩, _, rfl, _, rfl, _, _, ⟨rfl, rfl⟩, by rw [sizeLine_eq]; decide, fun t ht => ?_⟩
    obtain ⟨w1, w2⟩ := List.pairwise_cons.mp pw
    obtain ⟨w3, w4⟩ := List.pairwise_cons.mp w2
    obtain ⟨w5, w6⟩ := List.pairwise_cons.mp w4
    exact k _ t (_, _, _) ((Same.upd (Same.refl H) hl).trans ((Same.upd (Same.refl _) hr2).trans (Same.upd (Same.refl _) ht))) (Same.free ((Same.upd (Same.refl H) hl).trans (Same.upd (Same.refl _) hr2)) ht) ⟨a, b, c, d, pm, w1 b (by simp), w3 c (by simp), w5 d (by simp), rfl⟩ upd_same
def spLeastSize (K : PySem.W.Frag) : Sp := fun vs H Q _ => ∃ (a b c : Int) (p : Addr), vs = [.ref p] ∧ SqT K H p [.int a, .int b, .int c] ∧ Q (.int (2 * (a + b) + c + 1)) H
abbrev N_least_size : List Str := ["kind"]
theorem sc_least_size : FnScope N_least_size ["kind"] (defScope (top 60)) := ⟨rfl, rfl, rfl, by decide +kernel, rfl, by decide +kernel, by decide +kernel⟩
theorem F_least_size (T : TX w K mg) : Fn P w K mg base 1 "least_size" (spLeastSize K) := by
  obtain ⟨fd, F⟩ := T.fi 19
  have nd := sc_least_size.nd
  refine ⟨_, raw0 F sc_least_size (fun vs H Q E h => ?_) (fun _ _ _ _ _ _ us hl => match us, hl with | [_], _ => rfl) (fun cdv A outer s H vs Q E hr h => ?_), T.g "least_size", F.kp⟩
  · obtain ⟨a, b, c, p, rfl, hp, k⟩ := h
    rfl
  · obtain ⟨a, b, c, p, rfl, hp, k⟩ := h
    refine ⟨_, (pss_one (ps_ret (pe_op op_add (pe_op op_add (pe_op op_mul (pe_int) (pe_op op_add (pe_ix ix_tup (pv 0) (pe_int) (fun _ _ => rfl)) (pe_ix ix_tup (pv 0) (pe_int) (fun _ _ => rfl)))) (pe_ix ix_tup (pv 0) (pe_int) (fun _ _ => rfl))) (pe_int)))), ?_⟩
    simp only [tSeq, tRet, tRetN, tAsg, tIf, tIfS, tNext, tTest, tB, cx_K, cx_w, cx_nK, cx_nw, tOp, tUn, tVar, tC, tCons, tNil, tTup, tLst, tF, tM1, tCB, tAnd, tOr, tNot, tAndV, tOrV, tNotV, tChain, tFld, tPart, tNoPart, tSl, rU, rI0, rI, rEq, rNe, rIxD, rIxL, rIxT, rLen, rIsi, rLenQ, rTupOf, rIn, rSlL, rNewStrs, rAppend, rCat, gUnl, tDrop, wipe, List.foldl_cons, List.foldl_nil, StX.tMakeR, sFld, tLenSetN, rIndex, rSorted, rSortedT, rSetOfT, tPar, tPar3, tBM, rSum, rAll, rAny, tNever, gName, gTup, gCons, gNil, L2.start, List.map_cons, List.map_nil, List.length_cons, List.length_nil, List.cons_append, List.nil_append, List.set_cons_zero, List.set_cons_succ, List.getElem?_cons_zero, List.getElem?_cons_succ, Option.some.injEq, V.int.injEq, V.str.injEq, V.bl.injEq, V.ref.injEq, V.ty.injEq, List.cons.injEq, exists_and_left, exists_and_right, exists_eq_left, exists_eq_left', exists_eq, exists_eq', and_true, true_and, exists_const, List.replicate, Nat.sub_self, Nat.reduceAdd, Nat.reduceSub, if_true, if_false, Bool.false_eq_true, ite_true, ite_false, reduceIte]
    exact ⟨_, hp, _, rfl, _, hp, _, rfl, _, rfl, _, rfl, .inl ⟨by decide, by decide⟩, _, hp, _, rfl, _, rfl, k⟩
def spCorner (K : PySem.W.Frag) : Sp := fun vs H Q _ => ∃ (a b c : Int) (p : Addr), vs = [.ref p] ∧ SqT K H p [.int a, .int b, .int c] ∧ ∀ H' t, Same H H' → H t = none → CellAt H' t (a, a + b) → Q (.ref t) H'
abbrev N_corner : List Str := ["kind"]
theorem sc_corner : FnScope N_corner ["kind"] (defScope (top 61)) := ⟨rfl, rfl, rfl, by decide +kernel, rfl, by decide +kernel, by decide +kernel⟩
theorem F_corner (T : TX w K mg) : Fn P w K mg base 1 "corner" (spCorner K) := by
  obtain ⟨fd, F⟩ := T.fi 20
  have nd := sc_corner.nd
  refine ⟨_, raw0 F sc_corner (fun vs H Q E h => ?_) (fun _ _ _ _ _ _ us hl => match us, hl with | [_], _ => rfl) (fun cdv A outer s H vs Q E hr h => ?_), T.g "corner", F.kp⟩
  · obtain ⟨a, b, c, p, rfl, hp, k⟩ := h
    rfl
  · obtain ⟨a, b, c, p, rfl, hp, k⟩ := h
    refine ⟨_, (pss_one (ps_ret (pe_tup (pa_cons (pe_ix ix_tup (pv 0) (pe_int) (fun _ _ => rfl)) (pa_cons (pe_op op_add (pe_ix ix_tup (pv 0) (pe_int) (fun _ _ => rfl)) (pe_ix ix_tup (pv 0) (pe_int) (fun _ _ => rfl))) pa_nil))))), ?_⟩
    simp only [tSeq, tRet, tRetN, tAsg, tIf, tIfS, tNext, tTest, tB, cx_K, cx_w, cx_nK, cx_nw, tOp, tUn, tVar, tC, tCons, tNil, tTup, tLst, tF, tM1, tCB, tAnd, tOr, tNot, tAndV, tOrV, tNotV, tChain, tFld, tPart, tNoPart, tSl, rU, rI0, rI, rEq, rNe, rIxD, rIxL, rIxT, rLen, rIsi, rLenQ, rTupOf, rIn, rSlL, rNewStrs, rAppend, rCat, gUnl, tDrop, wipe, List.foldl_cons, List.foldl_nil, StX.tMakeR, sFld, tLenSetN, rIndex, rSorted, rSortedT, rSetOfT, tPar, tPar3, tBM, rSum, rAll, rAny, tNever, gName, gTup, gCons, gNil, L2.start, List.map_cons, List.map_nil, List.length_cons, List.length_nil, List.cons_append, List.nil_append, List.set_cons_zero, List.set_cons_succ, List.getElem?_cons_zero, List.getElem?_cons_succ, Option.some.injEq, V.int.injEq, V.str.injEq, V.bl.injEq, V.ref.injEq, V.ty.injEq, List.cons.injEq, exists_and_left, exists_and_right, exists_eq_left, exists_eq_left', exists_eq, exists_eq', and_true, true_and, exists_const, List.replicate, Nat.sub_self, Nat.reduceAdd, Nat.reduceSub, if_true, if_false, Bool.false_eq_true, ite_true, ite_false, reduceIte]
    refine ⟨_, hp, _, rfl, _, hp, _, rfl, _, hp, _, rfl, _, rfl, _, rfl, by rw [sizeLine_eq]; decide, fun t ht => ?_⟩
    exact k _ t (Same.upd (Same.refl H) ht) ht upd_same
/-- whether a kind stands in tables of a size -/
def stands (k : Int × Int × Int) (n : Int) : Bool :=
  let r := n - (2 * (k.1 + k.2.1) + k.2.2 + 1)
  if r < 0 then false else if k.2.2 = 3 ∨ r = 0 then true else decide (r.fmod 2 = 0) && (decide (k.1 = 1) || decide (k.2.1 = 2))
def spStandsAt (K : PySem.W.Frag) : Sp := fun vs H Q _ => ∃ (a b c n : Int) (p : Addr), vs = [.ref p, .int n] ∧ SqT K H p [.int a, .int b, .int c] ∧ Q (.bl (stands (a, b, c) n)) H
abbrev N_stands_at : List Str := ["kind", "size", "rest"]
theorem sc_stands_at : FnScope N_stands_at ["kind", "size"] (defScope (top 62)) := ⟨rfl, rfl, rfl, by decide +kernel, rfl, by decide +kernel, by decide +kernel⟩
theorem F_stands_at (T : TX w K mg) : Fn P w K mg base 2 "stands_at" (spStandsAt K) := by
  obtain ⟨fd, F⟩ := T.fi 21
  have nd := sc_stands_at.nd
  have F_least_size := F_least_size (P := P) (base := base) T
  refine ⟨_, raw0 F sc_stands_at (fun vs H Q E h => ?_) (fun _ _ _ _ _ _ us hl => match us, hl with | [_, _], _ => rfl) (fun cdv A outer s H vs Q E hr h => ?_), T.g "stands_at", F.kp⟩
  · obtain ⟨a, b, c, n, p, rfl, hp, k⟩ := h
    rfl
  · obtain ⟨a, b, c, n, p, rfl, hp, k⟩ := h
    refine ⟨_, (pss_cons (ps_set (i := 2) nd rfl (Or.inl rfl) (pe_op op_sub (pv 1) (pe_f F_least_size hr (pa_cons (pv 0) pa_nil))))
    (pss_cons (ps_if (pt_cmpR op_lt (pv 2) (pe_int) (nomark _)) (pss_one (ps_ret (pe_bl))) pss_nil)
    (pss_cons (ps_if (PW.pt (pw_or (pt_cmpR op_eq (pe_ix ix_tup (pv 0) (pe_int) (fun _ _ => rfl)) (pe_int) (nomark _)) (pw_or1 (pt_cmpR op_eq (pv 2) (pe_int) (nomark _))))) (pss_one (ps_ret (pe_bl))) pss_nil)
    (pss_one (ps_ret (pe_and (pe_cmpR op_eq (pe_op op_modN (pe_callTy call_int1 (by rfl) (T.z "int") (by decide +kernel) (pa_cons (pv 2) pa_nil)) (pe_int)) (pe_int) (nomark _)) (pe_one (pe_or (pe_cmpR op_eq (pe_ix ix_tup (pv 0) (pe_int) (fun _ _ => rfl)) (pe_int) (nomark _)) (pe_one (pe_cmpR op_eq (pe_ix ix_tup (pv 0) (pe_int) (fun _ _ => rfl)) (pe_int) (nomark _))))))))))), ?_⟩
    simp only [tSeq, tRet, tRetN, tAsg, tIf, tIfS, tNext, tTest, tB, cx_K, cx_w, cx_nK, cx_nw, tOp, tUn, tVar, tC, tCons, tNil, tTup, tLst, tF, tM1, tCB, tAnd, tOr, tNot, tAndV, tOrV, tNotV, tChain, tFld, tPart, tNoPart, tSl, rU, rI0, rI, rEq, rNe, rIxD, rIxL, rIxT, rLen, rIsi, rLenQ, rTupOf, rIn, rSlL, rNewStrs, rAppend, rCat, gUnl, tDrop, wipe, List.foldl_cons, List.foldl_nil, StX.tMakeR, sFld, tLenSetN, rIndex, rSorted, rSortedT, rSetOfT, tPar, tPar3, tBM, rSum, rAll, rAny, tNever, gName, gTup, gCons, gNil, L2.start, List.map_cons, List.map_nil, List.length_cons, List.length_nil, List.cons_append, List.nil_append, List.set_cons_zero, List.set_cons_succ, List.getElem?_cons_zero, List.getElem?_cons_succ, Option.some.injEq, V.int.injEq, V.str.injEq, V.bl.injEq, V.ref.injEq, V.ty.injEq, List.cons.injEq, exists_and_left, exists_and_right, exists_eq_left, exists_eq_left', exists_eq, exists_eq', and_true, true_and, exists_const, List.replicate, Nat.sub_self, Nat.reduceAdd, Nat.reduceSub, if_true, if_false, Bool.false_eq_true, ite_true, ite_false, reduceIte]
    refine ⟨a, b, c, p, rfl, hp, _, rfl, ?_⟩
    unfold stands at k
    dsimp only at k
    have ei : ∀ x y : Int, decide (V.int x = V.int y) = decide (x = y) := fun x y => by simp
    generalize n - (2 * (a + b) + c + 1) = r at k ⊢
    by_cases h0 : r < 0
    · rw [decide_eq_true h0]
      rw [if_pos h0] at k
      exact iteT k
    · rw [decide_eq_false h0]
      rw [if_neg h0] at k
      refine iteF ⟨_, hp, _, rfl, rfl, ?_⟩
      rw [ei]
      by_cases h1 : c = 3
      · rw [decide_eq_true h1]
        rw [if_pos (.inl h1)] at k
        exact iteT k
      · rw [decide_eq_false h1]
        refine iteF ⟨rfl, ?_⟩
        by_cases h2 : r = 0
        · rw [decide_eq_true h2]
          rw [if_pos (.inr h2)] at k
          exact iteT k
        · rw [decide_eq_false h2]
          rw [if_neg (by rintro (h | h) <;> contradiction)] at k
          refine iteF (.inl ⟨by decide, rfl, ?_⟩)
          by_cases h3 : r.fmod 2 = 0
          · rw [decide_eq_true h3] at k ⊢
            refine iteT ⟨_, hp, _, rfl, rfl, ?_⟩
            rw [ei]
            by_cases h4 : a = 1
            · rw [decide_eq_true h4] at k ⊢
              exact iteT k
            · rw [decide_eq_false h4] at k ⊢
              refine iteF ⟨_, hp, _, rfl, rfl, ?_⟩
              rw [ei]
              exact k
          · rw [decide_eq_false h3] at k ⊢
            exact iteF k
/-- the kinds, by their number -/
def kindAt (i : Nat) : Int × Int × Int := match kinds.getD i [] with
  | [a, b, c] => (a, b, c)
  | _ => (0, 0, 0)
theorem TX.kd (T : TX w K mg) {i : Nat} (h : i < 24) {H : Hp} : SqT K H (kiAd K i) [.int (kindAt i).1, .int (kindAt i).2.1, .int (kindAt i).2.2] := by
  have q : ∀ i < 24, (kinds.getD i []).map V.int = [V.int (kindAt i).1, .int (kindAt i).2.1, .int (kindAt i).2.2] := by decide +kernel
  rw [← q i h]
  exact T.kind h
theorem walk_kinds (T : TX w K mg) : Walk (Itt K (ga K "KINDS")) 24 (fun _ => True) (fun i H x H' => H' = H ∧ x = V.ref (kiAd K i)) := by
  have e : ((List.range 24).map fun i => V.ref (kiAd K i)).length = 24 := by rw [List.length_map, List.length_range]
  have q := Walk.mono (walk_tup (K := K) (a := ga K "KINDS") (xs := (List.range 24).map fun i => V.ref (kiAd K i))) (G' := fun _ => True) (Y' := fun i H x H' => H' = H ∧ x = V.ref (kiAd K i)) (fun H _ => T.kindsT) (fun i H x H' hi _ y => ?_)
  · rw [e] at q
    exact q
  · obtain ⟨h1, h2⟩ := y
    rw [e] at hi
    refine ⟨h1, ?_⟩
    rw [List.getElem?_map, List.getElem?_range hi] at h2
    exact (Option.some.inj h2).symm
/-- the kinds that stand in tables of a size -/
def standing (n : Int) : List Nat := (List.range 24).filter fun i => stands (kindAt i) n
def spStandingKinds (K : PySem.W.Frag) : Sp := fun vs H Q _ => ∃ (n : Int), vs = [.int n] ∧ ∀ H' t, Same H H' → H' t = some (.tup ((standing n).map fun i => V.ref (kiAd K i))) → Q (.ref t) H'
abbrev N_standing_kinds : List Str := ["size", "kind"]
theorem sc_standing_kinds : FnScope N_standing_kinds ["size"] (defScope (top 63)) := ⟨rfl, rfl, rfl, by decide +kernel, rfl, by decide +kernel, by decide +kernel⟩
theorem F_standing_kinds (T : TX w K mg) : Fn P w K mg base 3 "standing_kinds" (spStandingKinds K) := by
  obtain ⟨fd, F⟩ := T.fi 22
  have nd := sc_standing_kinds.nd
  have F_stands_at := F_stands_at (P := P) (base := base) T
  refine ⟨_, raw0 F sc_standing_kinds (fun vs H Q E h => ?_) (fun _ _ _ _ _ _ us hl => match us, hl with | [_], _ => rfl) (fun cdv A outer s H vs Q E hr h => ?_), T.g "standing_kinds", F.kp⟩
  · obtain ⟨n, rfl, k⟩ := h
    rfl
  · obtain ⟨n, rfl, k⟩ := h
    refine ⟨_, (pss_one (ps_ret (pe_callTy call_tuple_of (by rfl) (T.z "tuple") (by decide +kernel) (pa_cons (pe_lc (own := [("kind", 1)]) (g := gName 1) (by rfl) nd (pi_tup (pe_K rfl (T.g "KINDS"))) (blkOk_by (own := [("kind", 1)]) (N := N_standing_kinds) (sc := (defScope (top 63))) (by decide +kernel)) (fun _ _ _ _ _ => (pg_name (i := 1) nd rfl (Or.inl rfl))) (fun _ _ _ _ _ => (pts_one (pt_val (pe_f F_stands_at hr (pa_cons (pv 1) (pa_cons (pv 0) pa_nil)))))) (fun _ _ _ _ _ => (pv 1))) pa_nil)))), ?_⟩
    simp only [tSeq, tRet, tRetN, tAsg, tIf, tIfS, tNext, tTest, tB, cx_K, cx_w, cx_nK, cx_nw, tOp, tUn, tVar, tC, tCons, tNil, tTup, tLst, tF, tM1, tCB, tAnd, tOr, tNot, tAndV, tOrV, tNotV, tChain, tFld, tPart, tNoPart, tSl, rU, rI0, rI, rEq, rNe, rIxD, rIxL, rIxT, rLen, rIsi, rLenQ, rTupOf, rIn, rSlL, rNewStrs, rAppend, rCat, gUnl, tDrop, wipe, List.foldl_cons, List.foldl_nil, StX.tMakeR, sFld, tLenSetN, rIndex, rSorted, rSortedT, rSetOfT, tPar, tPar3, tBM, rSum, rAll, rAny, tNever, gName, gTup, gCons, gNil, L2.start, List.map_cons, List.map_nil, List.length_cons, List.length_nil, List.cons_append, List.nil_append, List.set_cons_zero, List.set_cons_succ, List.getElem?_cons_zero, List.getElem?_cons_succ, Option.some.injEq, V.int.injEq, V.str.injEq, V.bl.injEq, V.ref.injEq, V.ty.injEq, List.cons.injEq, exists_and_left, exists_and_right, exists_eq_left, exists_eq_left', exists_eq, exists_eq', and_true, true_and, exists_const, List.replicate, Nat.sub_self, Nat.reduceAdd, Nat.reduceSub, if_true, if_false, Bool.false_eq_true, ite_true, ite_false, reduceIte]
    refine ⟨_, rfl, ⟨_, T.kindsT⟩, fun D hD => lcf (walk_kinds T) (by rw [sizeLine_eq]; decide) hD (fun i => V.ref (kiAd K i)) (fun i => stands (kindAt i) n) (fun H _ => trivial) (fun i H x H' y => y) (fun i H5 Q1 Q2 hi sa5 h1 h2 => ?_) (fun H5 sa5 e5 => ?_)⟩
    · refine ⟨rfl, _, rfl, _, rfl, (kindAt i).1, (kindAt i).2.1, (kindAt i).2.2, n, _, rfl, T.kd hi, _, rfl, ?_⟩
      cases q : stands (kindAt i) n with
      | true =>
        exact iteT ⟨_, rfl, h1 _ (Same.refl _) q⟩
      | false =>
        exact iteF (h2 _ (Same.refl _) q)
    · exact ⟨D, rfl, _, .inl ⟨.of e5, fun t ht => k _ t (sa5.trans (Same.upd (Same.refl _) ht)) upd_same⟩⟩
end
end Sq

set_option Elab.async false
set_option linter.all false
set_option maxRecDepth 100000
set_option maxHeartbeats 4000000
/-! ## Walks: deeds done, rounds, tables -/
namespace Sq
open PySem PySem.Spec PyProof.Rows L2 He
/-- all but a stand -/
def SameX (a : Addr) (H H' : Hp) : Prop := ∀ b u, b ≠ a → H b = some u → H' b = some u
theorem SameX.refl {a : Addr} (H : Hp) : SameX a H H := fun _ _ _ e => e
theorem SameX.trans {a : Addr} {H H' H2 : Hp} (s : SameX a H H') (t : SameX a H' H2) : SameX a H H2 := fun b u n e => t b u n (s b u n e)
theorem SameX.of {a : Addr} {H H' : Hp} (s : Same H H') : SameX a H H' := fun b u _ e => s b u e
theorem SameX.upd {a : Addr} {H : Hp} {u : HO} : SameX a H (L2.upd H a u) := fun b v n e => by rw [upd_ne n]; exact e
/-! ### contents: entries by cells -/
abbrev Ct : Type := List (Cell × Int)
def ctGet (ct : Ct) (c : Cell) : Option Int := (ct.find? fun p => decide (p.1 = c)).map (·.2)
def ctPut (ct : Ct) (c : Cell) (v : Int) : Ct := if (ct.any fun p => decide (p.1 = c)) = true then ct.map (fun p => if p.1 = c then (p.1, v) else p) else ct ++ [(c, v)]
def ck (c : Cell) : List Key := [.inl c.1, .inl c.2]
def dt (ct : Ct) : List (List Key × V) := ct.map fun p => (ck p.1, V.int p.2)
theorem ck_eq {a b : Cell} : ck a = ck b ↔ a = b := by
  constructor
  · intro h
    unfold ck at h
    simp only [List.cons.injEq, Sum.inl.injEq, and_true] at h
    exact Prod.ext h.1 h.2
  · intro h; rw [h]
theorem dt_get (c : Cell) : ∀ ct : Ct, valV (dt ct) (ck c) = (ctGet ct c).map V.int
  | [] => rfl
  | p :: ct => by
    show ((List.find? _ ((ck p.1, V.int p.2) :: dt ct)).map _) = ((List.find? _ (p :: ct)).map _).map _
    by_cases h : p.1 = c
    · rw [List.find?_cons_of_pos (by simp [h]), List.find?_cons_of_pos (by simp [h])]
      rfl
    · rw [List.find?_cons_of_neg (by simp [ck_eq, h]), List.find?_cons_of_neg (by simp [h])]
      exact dt_get c ct
theorem dt_put (c : Cell) (v : Int) (ct : Ct) : putK (dt ct) (ck c) (V.int v) = dt (ctPut ct c v) := by
  unfold putK ctPut
  have e : ((dt ct).any fun kv => decide (kv.1 = ck c)) = (ct.any fun p => decide (p.1 = c)) := by
    unfold dt
    rw [List.any_map]
    congr 1
    funext p
    show decide (ck p.1 = ck c) = _
    simp [ck_eq]
  rw [e]
  split
  · unfold dt
    rw [List.map_map, List.map_map]
    congr 1
    funext p
    show (if ck p.1 = ck c then (ck p.1, V.int v) else (ck p.1, V.int p.2)) = _
    by_cases h : p.1 = c
    · simp [h]
    · simp [h, ck_eq]
  · unfold dt
    rw [List.map_append]
    rfl
theorem ct_any {ct : Ct} {c : Cell} {v : Int} (h : ctGet ct c = some v) : (ct.any fun p => decide (p.1 = c)) = true := by
  unfold ctGet at h
  obtain ⟨p, hp, _⟩ := Option.map_eq_some_iff.mp h
  have h2 := List.find?_some (p := fun p : Cell × Int => decide (p.1 = c)) hp
  exact List.any_eq_true.mpr ⟨p, List.mem_of_find?_eq_some hp, h2⟩
/-- the keys stay -/
theorem ctPut_keys {ct : Ct} {c : Cell} {v : Int} (h : c ∈ ct.map (·.1)) : (ctPut ct c v).map (·.1) = ct.map (·.1) := by
  have q : (ct.any fun p => decide (p.1 = c)) = true := by
    obtain ⟨p, hp, e⟩ := List.mem_map.mp h
    exact List.any_eq_true.mpr ⟨p, hp, by simp [e]⟩
  unfold ctPut
  rw [if_pos q, List.map_map]
  congr 1
  funext p
  show (if p.1 = c then (p.1, v) else p).1 = p.1
  split <;> rfl
theorem ctGet_mem {ct : Ct} {c : Cell} {v : Int} (h : ctGet ct c = some v) : c ∈ ct.map (·.1) := by
  obtain ⟨p, hp, e⟩ := List.any_eq_true.mp (ct_any h)
  exact List.mem_map.mpr ⟨p, hp, of_decide_eq_true e⟩
/-- a deed done -/
def doTurn (cells : List Cell) (es : List Int) (ct : Ct) : Nat → Ct
  | 0 => ct
  | k + 1 => ctPut (doTurn cells es ct k) (cells.getD (k + 1) (0, 0)) (es.getD k 0)
def doDeed (d : Dd) (n i j : Int) (ct : Ct) : Option Ct :=
  if (d.guard && !decide (i < j)) = true then some ct else
  let cells := d.spots.map fun p => Pl.cell p n i j
  (cells.mapM (ctGet ct)).map fun es => ctPut (doTurn cells es ct (cells.length - 1)) (cells.getD 0 (0, 0)) (es.getD (es.length - 1) 0)
section
variable {P : Program} {w : World} {K : PySem.W.Frag} {mg : Str → Option Value} {base : Heap}
def spDoDeed (K : PySem.W.Frag) : Sp := fun vs H Q _ => ∃ (da ca : Addr) (n i j : Int) (m1 m2 : V) (d : Dd) (ct ct' : Ct), vs = [.ref da, .int n, .int i, .int j, .ref ca, m1, m2] ∧ d ∈ dds ∧ DeedAt K H da d ∧ H ca = some (.dT (dt ct)) ∧ ct.length ≤ 8 ∧
  doDeed d n i j ct = some ct' ∧ ∀ H', SameX ca H H' → H' ca = some (.dT (dt ct')) → Q .non H'
theorem refs_of {ys : List V} (Rel : Nat → Addr → Prop) (h : ∀ i y, ys[i]? = some y → ∃ t, y = V.ref t ∧ Rel i t) : ∃ ts : List Addr, ys = ts.map V.ref ∧ ts.length = ys.length ∧ ∀ i t, ts[i]? = some t → Rel i t := by
  refine ⟨ys.map fun y => match y with | .ref t => t | _ => 0, ?_, by rw [List.length_map], fun i t e => ?_⟩
  · rw [List.map_map]
    refine List.ext_getElem? fun i => ?_
    rw [List.getElem?_map]
    cases q : ys[i]? with
    | none => rfl
    | some y =>
      obtain ⟨t, rfl, _⟩ := h i y q
      rfl
  · rw [List.getElem?_map] at e
    cases q : ys[i]? with
    | none => rw [q] at e; cases e
    | some y =>
      obtain ⟨t', rfl, r⟩ := h i y q
      rw [q] at e
      cases e
      exact r
theorem mapM_some {α β : Type} {f : α → Option β} : ∀ {cs : List α} {es : List β}, cs.mapM f = some es → es.length = cs.length ∧ ∀ (a : Nat) (c : α), cs[a]? = some c → ∃ v, es[a]? = some v ∧ f c = some v
  | [], es, h => by
    simp at h
    subst h
    exact ⟨rfl, fun a c e => by simp at e⟩
  | c :: cs, es, h => by
    rw [List.mapM_cons] at h
    cases q : f c with
    | none => rw [q] at h; cases h
    | some v =>
      rw [q] at h
      cases q2 : cs.mapM f with
      | none => rw [q2] at h; cases h
      | some vs =>
        rw [q2] at h
        have : v :: vs = es := Option.some.inj h
        subst this
        obtain ⟨h1, h2⟩ := mapM_some q2
        refine ⟨by simp [h1], fun a c' e => ?_⟩
        rcases a with _ | a
        · simp at e
          subst e
          exact ⟨v, rfl, q⟩
        · exact h2 a c' (by simpa using e)
abbrev N_do_deed : List Str := ["deed", "size", "i", "j", "content", "meet", "join", "cells", "spot", "entries", "cell", "k"]
theorem sc_do_deed : FnScope N_do_deed ["deed", "size", "i", "j", "content", "meet", "join"] (defScope (top 27)) := ⟨rfl, rfl, rfl, by decide +kernel, rfl, by decide +kernel, by decide +kernel⟩
theorem F_do_deed (T : TX w K mg) : Fn P w K mg base 3 "do_deed" (spDoDeed K) := by
  obtain ⟨fd, F⟩ := T.fi 11
  have nd := sc_do_deed.nd
  have F_holds := F_holds (P := P) (base := base) T
  have F_place_cell := F_place_cell (P := P) (base := base) T
  refine ⟨_, raw0 F sc_do_deed (fun vs H Q E h => ?_) (fun _ _ _ _ _ _ us hl => match us, hl with | [_, _, _, _, _, _, _], _ => rfl) (fun cdv A outer s H vs Q E hr h => ?_), T.g "do_deed", F.kp⟩
  · obtain ⟨da, ca, n, i, j, m1, m2, d, ct, ct', rfl, hd, hda, hca, hl, he, k⟩ := h
    rfl
  · obtain ⟨da, ca, n, i, j, m1, m2, d, ct, ct', rfl, hd, hda, hca, hl, he, k⟩ := h
    refine ⟨_, (pss_cons (ps_if (pt_not (pt_val (pe_f F_holds hr (pa_cons (pe_fld (pv 0) rfl) (pa_cons (pv 1) (pa_cons (pv 2) (pa_cons (pv 3) pa_nil))))))) (pss_one (ps_retN)) pss_nil)
    (pss_cons (ps_setLc (i := 7) (own := [("spot", 8)]) (g := gName 8) (tt := tYes) (by rfl) nd rfl rfl (sw_true rfl rfl rfl (by decide +kernel)) (pi_list (pe_fld (pv 0) rfl)) (blkOk_by (own := [("spot", 8)]) (N := N_do_deed) (sc := (defScope (top 27))) (by decide +kernel)) (fun _ _ _ _ _ => (pg_name (i := 8) nd rfl (Or.inl rfl))) (fun _ _ _ _ _ => pts_nil) (fun _ _ _ _ _ => (pe_f F_place_cell hr (pa_cons (pv 8) (pa_cons (pv 1) (pa_cons (pv 2) (pa_cons (pv 3) pa_nil)))))))
    (pss_cons (ps_setLc (i := 9) (own := [("cell", 10)]) (g := gName 10) (tt := tYes) (by rfl) nd rfl rfl (sw_true rfl rfl rfl (by decide +kernel)) (pi_list (pv 7)) (blkOk_by (own := [("cell", 10)]) (N := N_do_deed) (sc := (defScope (top 27))) (by decide +kernel)) (fun _ _ _ _ _ => (pg_name (i := 10) nd rfl (Or.inl rfl))) (fun _ _ _ _ _ => pts_nil) (fun _ _ _ _ _ => (pe_dget (hu_of hr) (pv 4) (pv 10) (fun _ _ => rfl))))
    (pss_one (ps_if (pt_cmpR op_eq (pe_fld (pv 0) rfl) (pe_str) (nomark _)) (pss_one ps_never) (pss_one (ps_if (pt_cmpR op_eq (pe_fld (pv 0) rfl) (pe_str) (nomark _)) (pss_cons ps_never
    (pss_one ps_never)) (pss_cons (ps_for PassesOwn.never rfl (pi_range2 (by rfl) (T.z "range") (pa_cons (pe_int) (pa_cons (pe_callB call_len_seq (by rfl) (T.z "len") (by decide +kernel) (pa_cons (pv 7) pa_nil)) pa_nil))) (pg_name (i := 11) nd rfl (Or.inl rfl)) (pss_one (ps_dput (hu_of hr) (pv 4) (pe_ix ix_list (pv 7) (pv 11) (fun _ _ => rfl)) (pe_ix ix_list (pv 9) (pe_op op_sub (pv 11) (pe_int)) (fun _ _ => rfl)) rfl)))
    (pss_one (ps_dput (hu_of hr) (pv 4) (pe_ix ix_list (pv 7) (pe_int) (fun _ _ => rfl)) (pe_ix ix_list (pv 9) (pe_un un_neg (pe_int)) (fun _ _ => rfl)) rfl)))))))))), ?_⟩
    obtain ⟨dx, sp, g, e0, e1, e2⟩ := hda
    have hw1 : decide (V.str d.word = V.str "copy") = false := by unfold Dd.word; cases d.turn <;> decide +kernel
    have hw2 : decide (V.str d.word = V.str "order") = false := by unfold Dd.word; cases d.turn <;> decide +kernel
    refine seqG fun R hR => ?_
    simp only [tSeq, tRet, tRetN, tAsg, tIf, tIfS, tNext, tTest, tB, cx_K, cx_w, cx_nK, cx_nw, tOp, tUn, tVar, tC, tCons, tNil, tTup, tLst, tF, tM1, tCB, tAnd, tOr, tNot, tAndV, tOrV, tNotV, tChain, tFld, tPart, tNoPart, tSl, rU, rI0, rI, rEq, rNe, rIxD, rIxL, rIxT, rLen, rIsi, rLenQ, rTupOf, rIn, rSlL, rNewStrs, rAppend, rCat, gUnl, tDrop, wipe, List.foldl_cons, List.foldl_nil, StX.tMakeR, sFld, tLenSetN, rIndex, rSorted, rSortedT, rSetOfT, tPar, tPar3, tBM, rSum, rAll, rAny, tNever, gName, gTup, gCons, gNil, L2.start, List.map_cons, List.map_nil, List.length_cons, List.length_nil, List.cons_append, List.nil_append, List.set_cons_zero, List.set_cons_succ, List.getElem?_cons_zero, List.getElem?_cons_succ, Option.some.injEq, V.int.injEq, V.str.injEq, V.bl.injEq, V.ref.injEq, V.ty.injEq, List.cons.injEq, exists_and_left, exists_and_right, exists_eq_left, exists_eq_left', exists_eq, exists_eq', and_true, true_and, exists_const, List.replicate, Nat.sub_self, Nat.reduceAdd, Nat.reduceSub, if_true, if_false, Bool.false_eq_true, ite_true, ite_false, reduceIte]
    refine ⟨_, _, _, e0, T.cls.1, T.noD.2.2, _, rfl, g, d, n, i, j, rfl, e2, _, rfl, ?_⟩
    unfold doDeed at he
    cases hg : (d.guard && !decide (i < j)) with
    | true =>
      rw [hg, if_pos rfl] at he
      cases he
      have : (!d.guard || decide (i < j)) = false := by revert hg; cases d.guard <;> cases decide (i < j) <;> simp
      rw [this]
      exact iteT (k H (SameX.refl H) hca)
    | false =>
    rw [hg, if_neg (by decide)] at he
    have : (!d.guard || decide (i < j)) = true := by revert hg; cases d.guard <;> cases decide (i < j) <;> simp
    rw [this]
    refine iteF ?_
    obtain ⟨cs, hcs⟩ : ∃ cs, cs = d.spots.map fun p => Pl.cell p n i j := ⟨_, rfl⟩
    dsimp only at he
    rw [← hcs] at he
    obtain ⟨es, hes, hct⟩ := Option.map_eq_some_iff.mp he
    rw [hR]; clear hR R
    refine seqG fun R hR => ?_
    simp only [tSeq, tRet, tRetN, tAsg, tIf, tIfS, tNext, tTest, tB, cx_K, cx_w, cx_nK, cx_nw, tOp, tUn, tVar, tC, tCons, tNil, tTup, tLst, tF, tM1, tCB, tAnd, tOr, tNot, tAndV, tOrV, tNotV, tChain, tFld, tPart, tNoPart, tSl, rU, rI0, rI, rEq, rNe, rIxD, rIxL, rIxT, rLen, rIsi, rLenQ, rTupOf, rIn, rSlL, rNewStrs, rAppend, rCat, gUnl, tDrop, wipe, List.foldl_cons, List.foldl_nil, StX.tMakeR, sFld, tLenSetN, rIndex, rSorted, rSortedT, rSetOfT, tPar, tPar3, tBM, rSum, rAll, rAny, tNever, gName, gTup, gCons, gNil, L2.start, List.map_cons, List.map_nil, List.length_cons, List.length_nil, List.cons_append, List.nil_append, List.set_cons_zero, List.set_cons_succ, List.getElem?_cons_zero, List.getElem?_cons_succ, Option.some.injEq, V.int.injEq, V.str.injEq, V.bl.injEq, V.ref.injEq, V.ty.injEq, List.cons.injEq, exists_and_left, exists_and_right, exists_eq_left, exists_eq_left', exists_eq, exists_eq', and_true, true_and, exists_const, List.replicate, Nat.sub_self, Nat.reduceAdd, Nat.reduceSub, if_true, if_false, Bool.false_eq_true, ite_true, ite_false, reduceIte]
    refine ⟨_, rfl, da, _, dx, _, _, rfl, e0, T.cls.1, T.noD.2.1, rfl, sp, rfl, ⟨_, e1⟩, fun D hD => lcr walk_list ?_ hD (fun a y H => ∃ t c, y = V.ref t ∧ cs[a]? = some c ∧ CellAt H t c) ?_ (fun H sa => sa.seq e1) (fun a x H5 H' Q5 ha sa5 y hq => ?_) (fun H5 ys sa5 e5 hys hrel => ?_)⟩
    · rw [List.length_map, sizeLine_eq]
      have := (dds_spots d hd).2.1
      omega
    · rintro a y H H' st ⟨t, c, h1, h2, h3⟩
      exact ⟨t, c, h1, h2, st _ _ h3⟩
    · obtain ⟨rfl, hx⟩ := y
      rw [List.getElem?_map] at hx
      obtain ⟨pz, hpz, rfl⟩ := Option.map_eq_some_iff.mp hx
      refine ⟨rfl, _, rfl, _, rfl, _, rfl, _, rfl, pz, n, i, j, rfl, dds_pls d hd pz (List.mem_of_getElem? hpz), fun H6 t s6 ht e6 => ?_⟩
      refine hq _ _ s6 ⟨t, _, rfl, ?_, e6⟩
      rw [hcs, List.getElem?_map, hpz]
      rfl
    · obtain ⟨ts, rfl, htl, hts⟩ := refs_of (fun a t => ∃ c, cs[a]? = some c ∧ CellAt H5 t c) fun a y e => by
        obtain ⟨t, c, h1, h2, h3⟩ := hrel a y e
        exact ⟨t, h1, c, h2, h3⟩
      have hcl : cs.length = d.spots.length := by rw [hcs, List.length_map]
      have htl2 : ts.length = cs.length := by rw [htl, hys, List.length_map, hcl]
      obtain ⟨b1, b2, _, _⟩ := dds_spots d hd
      obtain ⟨hes2, hget⟩ := mapM_some hes
      show R _ _
      rw [hR]; clear hR R
      refine seqG fun R hR => ?_
      simp only [tSeq, tRet, tRetN, tAsg, tIf, tIfS, tNext, tTest, tB, cx_K, cx_w, cx_nK, cx_nw, tOp, tUn, tVar, tC, tCons, tNil, tTup, tLst, tF, tM1, tCB, tAnd, tOr, tNot, tAndV, tOrV, tNotV, tChain, tFld, tPart, tNoPart, tSl, rU, rI0, rI, rEq, rNe, rIxD, rIxL, rIxT, rLen, rIsi, rLenQ, rTupOf, rIn, rSlL, rNewStrs, rAppend, rCat, gUnl, tDrop, wipe, List.foldl_cons, List.foldl_nil, StX.tMakeR, sFld, tLenSetN, rIndex, rSorted, rSortedT, rSetOfT, tPar, tPar3, tBM, rSum, rAll, rAny, tNever, gName, gTup, gCons, gNil, L2.start, List.map_cons, List.map_nil, List.length_cons, List.length_nil, List.cons_append, List.nil_append, List.set_cons_zero, List.set_cons_succ, List.getElem?_cons_zero, List.getElem?_cons_succ, Option.some.injEq, V.int.injEq, V.str.injEq, V.bl.injEq, V.ref.injEq, V.ty.injEq, List.cons.injEq, exists_and_left, exists_and_right, exists_eq_left, exists_eq_left', exists_eq, exists_eq', and_true, true_and, exists_const, List.replicate, Nat.sub_self, Nat.reduceAdd, Nat.reduceSub, if_true, if_false, Bool.false_eq_true, ite_true, ite_false, reduceIte]
      refine ⟨_, rfl, D, rfl, ⟨_, .of e5⟩, fun D2 hD2 => lcm walk_list (by rw [List.length_map, sizeLine_eq]; omega) hD2 (fun a => V.int (es.getD a 0)) (fun H sa => sa.seq (.of e5)) (fun a x H6 H' Q5 ha sa6 y hq => ?_) (fun H6 sa6 e6 => ?_)⟩
      · obtain ⟨rfl, hx⟩ := y
        rw [List.getElem?_map] at hx
        obtain ⟨t, ht, rfl⟩ := Option.map_eq_some_iff.mp hx
        obtain ⟨c, hc1, hc2⟩ := hts a t ht
        obtain ⟨v, hv1, hv2⟩ := hget a c hc1
        have eca := sa6 _ _ (sa5 _ _ hca)
        have ecl := sa6 _ _ hc2
        refine ⟨rfl, _, rfl, _, rfl, ca, .int v, rfl, ?_, ?_⟩
        · have := DGet.t (k := ck c) eca ecl
          rw [dt_get, hv2] at this
          exact this
        · have := hq _ (Same.refl _)
          rw [List.getD_eq_getElem?_getD, hv1] at this
          exact this
      · show R _ _
        rw [hR]; clear hR R
        simp only [tSeq, tRet, tRetN, tAsg, tIf, tIfS, tNext, tTest, tB, cx_K, cx_w, cx_nK, cx_nw, tOp, tUn, tVar, tC, tCons, tNil, tTup, tLst, tF, tM1, tCB, tAnd, tOr, tNot, tAndV, tOrV, tNotV, tChain, tFld, tPart, tNoPart, tSl, rU, rI0, rI, rEq, rNe, rIxD, rIxL, rIxT, rLen, rIsi, rLenQ, rTupOf, rIn, rSlL, rNewStrs, rAppend, rCat, gUnl, tDrop, wipe, List.foldl_cons, List.foldl_nil, StX.tMakeR, sFld, tLenSetN, rIndex, rSorted, rSortedT, rSetOfT, tPar, tPar3, tBM, rSum, rAll, rAny, tNever, gName, gTup, gCons, gNil, L2.start, List.map_cons, List.map_nil, List.length_cons, List.length_nil, List.cons_append, List.nil_append, List.set_cons_zero, List.set_cons_succ, List.getElem?_cons_zero, List.getElem?_cons_succ, Option.some.injEq, V.int.injEq, V.str.injEq, V.bl.injEq, V.ref.injEq, V.ty.injEq, List.cons.injEq, exists_and_left, exists_and_right, exists_eq_left, exists_eq_left', exists_eq, exists_eq', and_true, true_and, exists_const, List.replicate, Nat.sub_self, Nat.reduceAdd, Nat.reduceSub, if_true, if_false, Bool.false_eq_true, ite_true, ite_false, reduceIte]
        have f0 := sa6 _ _ (sa5 _ _ e0)
        refine ⟨_, _, _, f0, T.cls.1, T.noD.1, _, rfl, rfl, ?_⟩
        rw [hw1]
        refine iteF ⟨_, _, _, f0, T.cls.1, T.noD.1, _, rfl, rfl, ?_⟩
        rw [hw2]
        refine iteF ?_
        have eD : H6 D = some (.lst (ts.map V.ref)) := sa6 _ _ e5
        have eD2 : H6 D2 = some (.lst ((List.range (ts.map V.ref).length).map fun a => V.int (es.getD a 0))) := e6
        have e66 : H6 ca = some (.dT (dt ct)) := sa6 _ _ (sa5 _ _ hca)
        have nD : D ≠ ca := fun e => by rw [e, hca] at hD; cases hD
        have nD2 : D2 ≠ ca := fun e => by rw [e, sa5 _ _ hca] at hD2; cases hD2
        have hcell : ∀ (a : Nat) (t : Addr), ts[a]? = some t → ∃ c, cs[a]? = some c ∧ CellAt H6 t c := fun a t e => by
          obtain ⟨c, h1, h2⟩ := hts a t e
          exact ⟨c, h1, sa6 _ _ h2⟩
        refine ⟨_, rfl, D, rfl, _, .inl (.of eD), 1, _, rfl, ?_, for_it walk_range (fun a σ H7 => ∃ o o2, σ = [some (V.ref da), some (V.int n), some (V.int i), some (V.int j), some (V.ref ca), some m1, some m2, some (V.ref D), o2, some (V.ref D2), none, o] ∧ SameX ca H6 H7 ∧ H7 ca = some (.dT (dt (doTurn cs es ct a))) ∧ (doTurn cs es ct a).map (·.1) = ct.map (·.1))
          ⟨none, none, rfl, SameX.refl _, e66, rfl⟩ (fun _ _ _ _ _ => trivial) (fun a x σ7 H7 H8 ha p y => ?_) (fun σ7 H7 p => ?_)⟩
        · rw [List.length_map]
          exact ⟨by decide, by decide, by omega, by omega⟩
        · obtain ⟨o, o2, rfl, s7, ec7, kk7⟩ := p
          obtain ⟨rfl, rfl⟩ := y
          rw [List.length_map] at ha
          simp only [tSeq, tRet, tRetN, tAsg, tIf, tIfS, tNext, tTest, tB, cx_K, cx_w, cx_nK, cx_nw, tOp, tUn, tVar, tC, tCons, tNil, tTup, tLst, tF, tM1, tCB, tAnd, tOr, tNot, tAndV, tOrV, tNotV, tChain, tFld, tPart, tNoPart, tSl, rU, rI0, rI, rEq, rNe, rIxD, rIxL, rIxT, rLen, rIsi, rLenQ, rTupOf, rIn, rSlL, rNewStrs, rAppend, rCat, gUnl, tDrop, wipe, List.foldl_cons, List.foldl_nil, StX.tMakeR, sFld, tLenSetN, rIndex, rSorted, rSortedT, rSetOfT, tPar, tPar3, tBM, rSum, rAll, rAny, tNever, gName, gTup, gCons, gNil, L2.start, List.map_cons, List.map_nil, List.length_cons, List.length_nil, List.cons_append, List.nil_append, List.set_cons_zero, List.set_cons_succ, List.getElem?_cons_zero, List.getElem?_cons_succ, Option.some.injEq, V.int.injEq, V.str.injEq, V.bl.injEq, V.ref.injEq, V.ty.injEq, List.cons.injEq, exists_and_left, exists_and_right, exists_eq_left, exists_eq_left', exists_eq, exists_eq', and_true, true_and, exists_const, List.replicate, Nat.sub_self, Nat.reduceAdd, Nat.reduceSub, if_true, if_false, Bool.false_eq_true, ite_true, ite_false, reduceIte, sDPut]
          have ha1 : a + 1 < ts.length := by omega
          have et : ts[a + 1]? = some ts[a + 1] := List.getElem?_eq_getElem ha1
          obtain ⟨c, hc1, hc2⟩ := hcell _ _ et
          obtain ⟨v, hv1, hv2⟩ := hget _ _ hc1
          have nt : ts[a + 1] ≠ ca := fun e => by
            have h2 : H6 ts[a + 1] = _ := hc2
            rw [e, e66] at h2
            cases h2
          refine ⟨_, .of (s7 _ _ nD2 eD2), V.int (es.getD a 0), ?_, _, .of (s7 _ _ nD eD), .ref ts[a + 1], ?_, _, DPut.t (k := ck c) ec7 (s7 _ _ nt hc2) ?_, ?_⟩
          · rw [show (1 : Int) + (a : Nat) - 1 = ((a : Nat) : Int) by omega]
            exact atI_nat (by rw [List.getElem?_map, List.getElem?_range (by rw [List.length_map]; omega)]; rfl)
          · rw [show (1 : Int) + (a : Nat) = ((a + 1 : Nat) : Int) by omega]
            exact atI_nat (by rw [List.getElem?_map, et]; rfl)
          · have q : (dt (doTurn cs es ct a)).length = ct.length := by
              have := congrArg List.length kk7
              rw [List.length_map, List.length_map] at this
              unfold dt
              rw [List.length_map, this]
            rw [q, sizeLine_eq]
            omega
          · have hcd : cs.getD (a + 1) (0, 0) = c := by rw [List.getD_eq_getElem?_getD, hc1]; rfl
            refine ⟨s7.trans SameX.upd, ?_, ?_⟩
            · rw [upd_same, dt_put]
              show _ = some (HO.dT (dt (ctPut (doTurn cs es ct a) (cs.getD (a + 1) (0, 0)) (es.getD a 0))))
              rw [hcd]
            · show (ctPut (doTurn cs es ct a) (cs.getD (a + 1) (0, 0)) (es.getD a 0)).map (·.1) = _
              rw [hcd, ctPut_keys (by rw [kk7]; exact ctGet_mem hv2), kk7]
        · obtain ⟨o, o2, rfl, s7, ec7, kk7⟩ := p
          simp only [tSeq, tRet, tRetN, tAsg, tIf, tIfS, tNext, tTest, tB, cx_K, cx_w, cx_nK, cx_nw, tOp, tUn, tVar, tC, tCons, tNil, tTup, tLst, tF, tM1, tCB, tAnd, tOr, tNot, tAndV, tOrV, tNotV, tChain, tFld, tPart, tNoPart, tSl, rU, rI0, rI, rEq, rNe, rIxD, rIxL, rIxT, rLen, rIsi, rLenQ, rTupOf, rIn, rSlL, rNewStrs, rAppend, rCat, gUnl, tDrop, wipe, List.foldl_cons, List.foldl_nil, StX.tMakeR, sFld, tLenSetN, rIndex, rSorted, rSortedT, rSetOfT, tPar, tPar3, tBM, rSum, rAll, rAny, tNever, gName, gTup, gCons, gNil, L2.start, List.map_cons, List.map_nil, List.length_cons, List.length_nil, List.cons_append, List.nil_append, List.set_cons_zero, List.set_cons_succ, List.getElem?_cons_zero, List.getElem?_cons_succ, Option.some.injEq, V.int.injEq, V.str.injEq, V.bl.injEq, V.ref.injEq, V.ty.injEq, List.cons.injEq, exists_and_left, exists_and_right, exists_eq_left, exists_eq_left', exists_eq, exists_eq', and_true, true_and, exists_const, List.replicate, Nat.sub_self, Nat.reduceAdd, Nat.reduceSub, if_true, if_false, Bool.false_eq_true, ite_true, ite_false, reduceIte, sDPut]
          have et : ts[0]? = some ts[0] := List.getElem?_eq_getElem (by omega)
          obtain ⟨c, hc1, hc2⟩ := hcell _ _ et
          have nt : ts[0] ≠ ca := fun e => by
            have h2 : H6 ts[0] = _ := hc2
            rw [e, e66] at h2
            cases h2
          refine ⟨_, .of (s7 _ _ nD2 eD2), V.int (es.getD (es.length - 1) 0), ?_, _, .of (s7 _ _ nD eD), .ref ts[0], ?_, _, DPut.t (k := ck c) ec7 (s7 _ _ nt hc2) ?_, ?_⟩
          · obtain ⟨m, hm⟩ : ∃ m, (ts.map V.ref).length = m + 1 := ⟨(ts.map V.ref).length - 1, by rw [List.length_map]; omega⟩
            rw [hm, List.range_succ, List.map_append]
            have hm2 : es.length - 1 = m := by rw [List.length_map] at hm; omega
            rw [hm2]
            exact atI_last _ _
          · exact atI_nat (j := 0) (by rw [List.getElem?_map, et]; rfl)
          · have q : (dt (doTurn cs es ct (((ts.map V.ref).length : Int) - 1).toNat)).length = ct.length := by
              have := congrArg List.length kk7
              unfold dt
              rw [List.length_map]
              simpa only [List.length_map] using this
            rw [q, sizeLine_eq]
            omega
          · have hcd : cs.getD 0 (0, 0) = c := by rw [List.getD_eq_getElem?_getD, hc1]; rfl
            have hn1 : (((ts.map V.ref).length : Int) - 1).toNat = cs.length - 1 := by rw [List.length_map]; omega
            refine k _ (((SameX.of sa5).trans (SameX.of sa6)).trans (s7.trans SameX.upd)) ?_
            rw [upd_same, dt_put, ← hct, hcd, hn1]
end
end Sq

set_option Elab.async false
set_option linter.all false
set_option maxRecDepth 100000
set_option maxHeartbeats 4000000
/-! ## Walks: bits, truth tables -/
namespace Sq
open PySem PySem.Spec PyProof.Rows L2 He
def bitsOf (c : Int) : List Nat := (List.range 8).filter fun k => decide (c / 2 ^ k % 2 = 1)
def startsOf (m : Nat) : List Int := (List.range m).map fun k => (2 ^ (2 ^ m) - 1) / (2 ^ (2 ^ k) + 1) * 2 ^ (2 ^ k)
def moveOf (ts : List Int) (c : Nat) : Int := ((List.range ts.length).map fun k => ts.getD k 0 / 2 ^ c % 2 * 2 ^ k).sum
def movesOf (ts : List Int) : List Int := (List.range (2 ^ ts.length)).map (moveOf ts)
def leastB (ms : List Int) (im c : Nat) : Bool := decide (ms.getD c 0 / 2 ^ im % 2 = 1) && (bitsOf c).all fun k => decide (ms.getD (c - 2 ^ k) 0 / 2 ^ im % 2 = 0)
def leastOf (ms : List Int) (im : Nat) : List Nat := (List.range ms.length).filter (leastB ms im)
theorem bitsOf_mem {c k : Nat} (h : k ∈ bitsOf c) : k < 8 ∧ 2 ^ k ≤ c := by
  unfold bitsOf at h
  obtain ⟨h1, h2⟩ := List.mem_filter.mp h
  have h3 : (c : Int) / 2 ^ k % 2 = 1 := of_decide_eq_true h2
  refine ⟨List.mem_range.mp h1, ?_⟩
  by_cases q : 2 ^ k ≤ c
  · exact q
  · have : (c : Int) / 2 ^ k = 0 := by
      refine Int.ediv_eq_zero_of_lt (by omega) ?_
      have : ((c : Nat) : Int) < ((2 ^ k : Nat) : Int) := Int.ofNat_lt.mpr (by omega)
      simpa using this
    rw [this] at h3
    omega
theorem bitsOf_len (c : Int) : (bitsOf c).length ≤ 8 := by
  unfold bitsOf
  have := List.length_filter_le (fun k => decide (c / 2 ^ k % 2 = 1)) (List.range 8)
  rw [List.length_range] at this
  exact this
theorem toNat_cast (k : Nat) : ((k : Int)).toNat = k := Int.toNat_natCast k
theorem and1 (x : Int) : Builtin.bitAnd x 1 = x % 2 := bitAnd_m1 x
theorem tn (k : Nat) : ((1 : Int) * 2 ^ k).toNat = 2 ^ k := by
  rw [Int.one_mul, show ((2 : Int) ^ k) = ((2 ^ k : Nat) : Int) by simp]
  exact Int.toNat_natCast _
theorem starts_ok : ∀ m < 9, ∀ i < m, CDivW (1 * 2 ^ (2 ^ m) - 1 : Int) (1 * 2 ^ (2 ^ i) + 1) ∧ CShl ((1 * 2 ^ (2 ^ m) - 1 : Int) / (1 * 2 ^ (2 ^ i) + 1)) (1 * 2 ^ i) := by unfold CDivW CShl; decide +kernel
section
variable {P : Program} {w : World} {K : PySem.W.Frag} {mg : Str → Option Value} {base : Heap}
def spBitsOf : Sp := fun vs H Q _ => ∃ c : Int, vs = [.int c] ∧ ∀ H' t, Same H H' → H' t = some (.lst ((bitsOf c).map fun k => V.int (k : Nat))) → Q (.ref t) H'
abbrev N_bits_of : List Str := ["content", "k"]
theorem sc_bits_of : FnScope N_bits_of ["content"] (defScope (top 72)) := ⟨rfl, rfl, rfl, by decide +kernel, rfl, by decide +kernel, by decide +kernel⟩
theorem F_bits_of (T : TX w K mg) : Fn P w K mg base 1 "bits_of" (spBitsOf) := by
  obtain ⟨fd, F⟩ := T.fi 28
  have nd := sc_bits_of.nd
  refine ⟨_, raw0 F sc_bits_of (fun vs H Q E h => ?_) (fun _ _ _ _ _ _ us hl => match us, hl with | [_], _ => rfl) (fun cdv A outer s H vs Q E hr h => ?_), T.g "bits_of", F.kp⟩
  · obtain ⟨c, rfl, k⟩ := h
    rfl
  · obtain ⟨c, rfl, k⟩ := h
    refine ⟨_, (pss_one (ps_ret (pe_lc (own := [("k", 1)]) (g := gName 1) (by rfl) nd (pi_range1 (by rfl) (T.z "range") (pa_cons (pe_int) pa_nil)) (blkOk_by (own := [("k", 1)]) (N := N_bits_of) (sc := (defScope (top 72))) (by decide +kernel)) (fun _ _ _ _ _ => (pg_name (i := 1) nd rfl (Or.inl rfl))) (fun _ _ _ _ _ => (pts_one (pt_cmpR op_eq (pe_op op_and (pe_op op_shr (pv 0) (pv 1)) (pe_int)) (pe_int) (nomark _)))) (fun _ _ _ _ _ => (pv 1))))), ?_⟩
    simp only [tSeq, tRet, tRetN, tAsg, tIf, tIfS, tNext, tTest, tB, cx_K, cx_w, cx_nK, cx_nw, tOp, tUn, tVar, tC, tCons, tNil, tTup, tLst, tF, tM1, tCB, tAnd, tOr, tNot, tAndV, tOrV, tNotV, tChain, tFld, tPart, tNoPart, tSl, rU, rI0, rI, rEq, rNe, rIxD, rIxL, rIxT, rLen, rIsi, rLenQ, rTupOf, rIn, rSlL, rNewStrs, rAppend, rCat, gUnl, tDrop, wipe, List.foldl_cons, List.foldl_nil, StX.tMakeR, sFld, tLenSetN, rIndex, rSorted, rSortedT, rSetOfT, tPar, tPar3, tBM, rSum, rAll, rAny, tNever, gName, gTup, gCons, gNil, L2.start, List.map_cons, List.map_nil, List.length_cons, List.length_nil, List.cons_append, List.nil_append, List.set_cons_zero, List.set_cons_succ, List.getElem?_cons_zero, List.getElem?_cons_succ, Option.some.injEq, V.int.injEq, V.str.injEq, V.bl.injEq, V.ref.injEq, V.ty.injEq, List.cons.injEq, exists_and_left, exists_and_right, exists_eq_left, exists_eq_left', exists_eq, exists_eq', and_true, true_and, exists_const, List.replicate, Nat.sub_self, Nat.reduceAdd, Nat.reduceSub, if_true, if_false, Bool.false_eq_true, ite_true, ite_false, reduceIte]
    refine ⟨8, rfl, by decide, by decide, fun D hD => lcf walk_range (by rw [sizeLine_eq]; decide) hD (fun i => V.int (i : Nat)) (fun i => decide (c / 2 ^ i % 2 = 1)) (fun _ _ => trivial) (fun i H x H' y => ⟨y.1, by have := y.2; dsimp only at this; rw [this, Int.zero_add]⟩) (fun i H5 Q1 Q2 hi sa5 h1 h2 => ?_) (fun H5 sa5 e5 => ?_)⟩
    · refine ⟨rfl, ?_⟩
      simp only [tSeq, tRet, tRetN, tAsg, tIf, tIfS, tNext, tTest, tB, cx_K, cx_w, cx_nK, cx_nw, tOp, tUn, tVar, tC, tCons, tNil, tTup, tLst, tF, tM1, tCB, tAnd, tOr, tNot, tAndV, tOrV, tNotV, tChain, tFld, tPart, tNoPart, tSl, rU, rI0, rI, rEq, rNe, rIxD, rIxL, rIxT, rLen, rIsi, rLenQ, rTupOf, rIn, rSlL, rNewStrs, rAppend, rCat, gUnl, tDrop, wipe, List.foldl_cons, List.foldl_nil, StX.tMakeR, sFld, tLenSetN, rIndex, rSorted, rSortedT, rSetOfT, tPar, tPar3, tBM, rSum, rAll, rAny, tNever, gName, gTup, gCons, gNil, L2.start, List.map_cons, List.map_nil, List.length_cons, List.length_nil, List.cons_append, List.nil_append, List.set_cons_zero, List.set_cons_succ, List.getElem?_cons_zero, List.getElem?_cons_succ, Option.some.injEq, V.int.injEq, V.str.injEq, V.bl.injEq, V.ref.injEq, V.ty.injEq, List.cons.injEq, exists_and_left, exists_and_right, exists_eq_left, exists_eq_left', exists_eq, exists_eq', and_true, true_and, exists_const, List.replicate, Nat.sub_self, Nat.reduceAdd, Nat.reduceSub, if_true, if_false, Bool.false_eq_true, ite_true, ite_false, reduceIte, toNat_cast, and1]
      refine ⟨by omega, rfl, ?_⟩
      by_cases q : c / 2 ^ i % 2 = 1
      · rw [decide_eq_true q]
        exact iteT (h1 _ (Same.refl _) (decide_eq_true q))
      · rw [decide_eq_false q]
        exact iteF (h2 _ (Same.refl _) (decide_eq_false q))
    · exact k _ D sa5 e5
def spStarts : Sp := fun vs H Q _ => ∃ m : Nat, vs = [.int m] ∧ m ≤ 8 ∧ ∀ H' t, Same H H' → H' t = some (.lst ((startsOf m).map V.int)) → Q (.ref t) H'
abbrev N_starts : List Str := ["count", "whole", "k"]
theorem sc_starts : FnScope N_starts ["count"] (defScope (top 67)) := ⟨rfl, rfl, rfl, by decide +kernel, rfl, by decide +kernel, by decide +kernel⟩
theorem F_starts (T : TX w K mg) : Fn P w K mg base 1 "starts" (spStarts) := by
  obtain ⟨fd, F⟩ := T.fi 25
  have nd := sc_starts.nd
  refine ⟨_, raw0 F sc_starts (fun vs H Q E h => ?_) (fun _ _ _ _ _ _ us hl => match us, hl with | [_], _ => rfl) (fun cdv A outer s H vs Q E hr h => ?_), T.g "starts", F.kp⟩
  · obtain ⟨m, rfl, hm, k⟩ := h
    rfl
  · obtain ⟨m, rfl, hm, k⟩ := h
    refine ⟨_, (pss_cons (ps_set (i := 1) nd rfl (Or.inr rfl) (pe_op op_sub (pe_op op_shl (pe_int) (pe_op op_shl (pe_int) (pv 0))) (pe_int)))
    (pss_one (ps_ret (pe_lc (own := [("k", 2)]) (g := gName 2) (tt := tYes) (by rfl) nd (pi_range1 (by rfl) (T.z "range") (pa_cons (pv 0) pa_nil)) (blkOk_by (own := [("k", 2)]) (N := N_starts) (sc := (defScope (top 67))) (by decide +kernel)) (fun _ _ _ _ _ => (pg_name (i := 2) nd rfl (Or.inl rfl))) (fun _ _ _ _ _ => pts_nil) (fun _ _ _ _ _ => (pe_op op_shlW (pe_op op_fdivW (pv 1) (pe_op op_add (pe_op op_shl (pe_int) (pe_op op_shl (pe_int) (pv 2))) (pe_int))) (pe_op op_shl (pe_int) (pv 2)))))))), ?_⟩
    have hp : (1 : Int) * 2 ^ m ≤ 256 := by
      have := Nat.pow_le_pow_right (n := 2) (by decide) hm
      have h2 : ((2 ^ m : Nat) : Int) ≤ ((2 ^ 8 : Nat) : Int) := Int.ofNat_le.mpr this
      rw [Int.one_mul]
      simpa using h2
    have hp0 : ∀ k : Nat, (0 : Int) ≤ 1 * 2 ^ k := fun k => by rw [Int.one_mul]; exact Int.le_of_lt (Int.pow_pos (by decide))
    simp only [tSeq, tRet, tRetN, tAsg, tIf, tIfS, tNext, tTest, tB, cx_K, cx_w, cx_nK, cx_nw, tOp, tUn, tVar, tC, tCons, tNil, tTup, tLst, tF, tM1, tCB, tAnd, tOr, tNot, tAndV, tOrV, tNotV, tChain, tFld, tPart, tNoPart, tSl, rU, rI0, rI, rEq, rNe, rIxD, rIxL, rIxT, rLen, rIsi, rLenQ, rTupOf, rIn, rSlL, rNewStrs, rAppend, rCat, gUnl, tDrop, wipe, List.foldl_cons, List.foldl_nil, StX.tMakeR, sFld, tLenSetN, rIndex, rSorted, rSortedT, rSetOfT, tPar, tPar3, tBM, rSum, rAll, rAny, tNever, gName, gTup, gCons, gNil, L2.start, List.map_cons, List.map_nil, List.length_cons, List.length_nil, List.cons_append, List.nil_append, List.set_cons_zero, List.set_cons_succ, List.getElem?_cons_zero, List.getElem?_cons_succ, Option.some.injEq, V.int.injEq, V.str.injEq, V.bl.injEq, V.ref.injEq, V.ty.injEq, List.cons.injEq, exists_and_left, exists_and_right, exists_eq_left, exists_eq_left', exists_eq, exists_eq', and_true, true_and, exists_const, List.replicate, Nat.sub_self, Nat.reduceAdd, Nat.reduceSub, if_true, if_false, Bool.false_eq_true, ite_true, ite_false, reduceIte, toNat_cast]
    refine ⟨⟨by omega, by omega, by decide⟩, ⟨hp0 m, by omega, by decide⟩, ?_⟩
    refine ⟨_, rfl, m, rfl, by omega, by omega, fun D hD => lcm walk_range (by rw [sizeLine_eq]; omega) hD (fun k => V.int ((2 ^ (2 ^ m) - 1) / (2 ^ (2 ^ k) + 1) * 2 ^ (2 ^ k))) (fun _ _ => trivial) (fun i x H5 H' Q5 hi sa5 y hq => ?_) (fun H5 sa5 e5 => ?_)⟩
    · obtain ⟨rfl, rfl⟩ := y
      refine ⟨rfl, ?_⟩
      simp only [tSeq, tRet, tRetN, tAsg, tIf, tIfS, tNext, tTest, tB, cx_K, cx_w, cx_nK, cx_nw, tOp, tUn, tVar, tC, tCons, tNil, tTup, tLst, tF, tM1, tCB, tAnd, tOr, tNot, tAndV, tOrV, tNotV, tChain, tFld, tPart, tNoPart, tSl, rU, rI0, rI, rEq, rNe, rIxD, rIxL, rIxT, rLen, rIsi, rLenQ, rTupOf, rIn, rSlL, rNewStrs, rAppend, rCat, gUnl, tDrop, wipe, List.foldl_cons, List.foldl_nil, StX.tMakeR, sFld, tLenSetN, rIndex, rSorted, rSortedT, rSetOfT, tPar, tPar3, tBM, rSum, rAll, rAny, tNever, gName, gTup, gCons, gNil, L2.start, List.map_cons, List.map_nil, List.length_cons, List.length_nil, List.cons_append, List.nil_append, List.set_cons_zero, List.set_cons_succ, List.getElem?_cons_zero, List.getElem?_cons_succ, Option.some.injEq, V.int.injEq, V.str.injEq, V.bl.injEq, V.ref.injEq, V.ty.injEq, List.cons.injEq, exists_and_left, exists_and_right, exists_eq_left, exists_eq_left', exists_eq, exists_eq', and_true, true_and, exists_const, List.replicate, Nat.sub_self, Nat.reduceAdd, Nat.reduceSub, if_true, if_false, Bool.false_eq_true, ite_true, ite_false, reduceIte, toNat_cast, Int.zero_add]
      rw [tn m, tn i]
      obtain ⟨o1, o2⟩ := starts_ok m (by omega) i hi
      have hpi : (1 : Int) * 2 ^ i ≤ 256 := by
        have := Nat.pow_le_pow_right (n := 2) (by decide) (show i ≤ 8 by omega)
        have h2 : ((2 ^ i : Nat) : Int) ≤ ((2 ^ 8 : Nat) : Int) := Int.ofNat_le.mpr this
        rw [Int.one_mul]
        simpa using h2
      have c1 : CPow 1 (i : Int) := ⟨by omega, by omega, by decide⟩
      refine ⟨c1, ⟨hp0 i, by omega, by decide⟩, o1, c1, o2, ?_⟩
      have := hq _ (Same.refl _)
      rw [Int.one_mul, Int.one_mul]
      exact this
    · refine k _ D sa5 ?_
      rw [e5]
      unfold startsOf
      rw [List.map_map]
      rfl
def spMovesFrom (K : PySem.W.Frag) : Sp := fun vs H Q _ => ∃ (a : Addr) (ts : List Int), vs = [.ref a] ∧ SqL K H a (ts.map V.int) ∧ ts.length ≤ 8 ∧ ∀ H' t, Same H H' → H t = none → H' t = some (.tup ((movesOf ts).map V.int)) → Q (.ref t) H'
abbrev N_moves_from : List Str := ["tables", "found", "content", "k", "table"]
theorem sc_moves_from : FnScope N_moves_from ["tables"] (defScope (top 70)) := ⟨rfl, rfl, rfl, by decide +kernel, rfl, by decide +kernel, by decide +kernel⟩
theorem F_moves_from (T : TX w K mg) : Fn P w K mg base 1 "moves_from" (spMovesFrom K) := by
  obtain ⟨fd, F⟩ := T.fi 26
  have nd := sc_moves_from.nd
  refine ⟨_, raw0 F sc_moves_from (fun vs H Q E h => ?_) (fun _ _ _ _ _ _ us hl => match us, hl with | [_], _ => rfl) (fun cdv A outer s H vs Q E hr h => ?_), T.g "moves_from", F.kp⟩
  · obtain ⟨a, ts, rfl, ha, hl, k⟩ := h
    rfl
  · obtain ⟨a, ts, rfl, ha, hl, k⟩ := h
    refine ⟨_, (pss_cons (ps_set (i := 1) nd rfl (Or.inl rfl) (pe_lst pa_nil))
    (pss_cons (ps_for PassesOwn.never rfl (pi_range1 (by rfl) (T.z "range") (pa_cons (pe_op op_shl (pe_int) (pe_callB call_len_seq (by rfl) (T.z "len") (by decide +kernel) (pa_cons (pv 0) pa_nil))) pa_nil)) (pg_name (i := 2) nd rfl (Or.inr rfl)) (pss_one (ps_expr (pe_bm PySem.F.plainAttrs_list PySem.F.slot_list_append PySem.F.type_list_append mt_append (pv 1) (pa_cons (pe_callB (cr_sum rfl) (by rfl) (T.z "sum") (by decide +kernel) (pa_cons (pe_lc (own := [("k", 3), ("table", 4)]) (tt := tYes) (by rfl) nd (pi_enum (by rfl) (T.z "enumerate") (pa_cons (pv 0) pa_nil)) (blkOk_by (own := [("k", 3), ("table", 4)]) (N := N_moves_from) (sc := (defScope (top 70))) (by decide +kernel)) (fun _ _ _ _ _ => (pg_tup (n := 2) rfl (pgs_cons (pg_name (i := 3) nd rfl (Or.inl rfl)) (pgs_cons (pg_name (i := 4) nd rfl (Or.inl rfl)) pgs_nil)) : PG _ _ (gTup K 2 _))) (fun _ _ _ _ _ => pts_nil) (fun _ _ _ _ _ => (pe_op op_shl (pe_op op_and (pe_op op_shr (pv 4) (pv 2)) (pe_int)) (pv 3)))) pa_nil)) pa_nil)))))
    (pss_one (ps_ret (pe_callTy call_tuple_of (by rfl) (T.z "tuple") (by decide +kernel) (pa_cons (pv 1) pa_nil)))))), ?_⟩
    refine seqG fun R hR => ?_
    simp only [tSeq, tRet, tRetN, tAsg, tIf, tIfS, tNext, tTest, tB, cx_K, cx_w, cx_nK, cx_nw, tOp, tUn, tVar, tC, tCons, tNil, tTup, tLst, tF, tM1, tCB, tAnd, tOr, tNot, tAndV, tOrV, tNotV, tChain, tFld, tPart, tNoPart, tSl, rU, rI0, rI, rEq, rNe, rIxD, rIxL, rIxT, rLen, rIsi, rLenQ, rTupOf, rIn, rSlL, rNewStrs, rAppend, rCat, gUnl, tDrop, wipe, List.foldl_cons, List.foldl_nil, StX.tMakeR, sFld, tLenSetN, rIndex, rSorted, rSortedT, rSetOfT, tPar, tPar3, tBM, rSum, rAll, rAny, tNever, gName, gTup, gCons, gNil, L2.start, List.map_cons, List.map_nil, List.length_cons, List.length_nil, List.cons_append, List.nil_append, List.set_cons_zero, List.set_cons_succ, List.getElem?_cons_zero, List.getElem?_cons_succ, Option.some.injEq, V.int.injEq, V.str.injEq, V.bl.injEq, V.ref.injEq, V.ty.injEq, List.cons.injEq, exists_and_left, exists_and_right, exists_eq_left, exists_eq_left', exists_eq, exists_eq', and_true, true_and, exists_const, List.replicate, Nat.sub_self, Nat.reduceAdd, Nat.reduceSub, if_true, if_false, Bool.false_eq_true, ite_true, ite_false, reduceIte]
    refine ⟨by rw [sizeLine_eq]; decide, fun l hl2 => ?_⟩
    have s1 : Same H (upd H l (.lst [])) := Same.upd (Same.refl H) hl2
    rw [hR]; clear hR R
    refine seqG fun R hR => ?_
    have ha1 : SqL K (upd H l (.lst [])) a (ts.map V.int) := s1.seq ha
    have hp : (2 : Int) ^ ts.length ≤ 256 := by
      have := Nat.pow_le_pow_right (n := 2) (by decide) hl
      have h2 : ((2 ^ ts.length : Nat) : Int) ≤ ((2 ^ 8 : Nat) : Int) := Int.ofNat_le.mpr this
      simpa using h2
    have hp0 : (0 : Int) ≤ 2 ^ ts.length := Int.le_of_lt (Int.pow_pos (by decide))
    refine ⟨_, rfl, a, _, rfl, .inl ha1, 1, (ts.map V.int).length, rfl, rfl, ?_, _, rfl, ?_, ?_, for_it walk_range (fun c σ H7 => ∃ o, σ = [some (V.ref a), some (V.ref l), o, none, none] ∧ Same H H7 ∧ H7 l = some (.lst ((List.range c).map fun c => V.int (moveOf ts c)))) ⟨none, rfl, s1, upd_same⟩ (fun _ _ _ _ _ => trivial) (fun c x σ7 H7 H8 hc p y => ?_) (fun σ7 H7 p => ?_)⟩
    · rw [List.length_map]
      exact ⟨by omega, by omega, by decide⟩
    · rw [List.length_map, toNat_cast]
      omega
    · rw [List.length_map, toNat_cast]
      omega
    · obtain ⟨o, rfl, s7, e7⟩ := p
      obtain ⟨rfl, rfl⟩ := y
      have hc2 : c < 256 := by
        rw [List.length_map, toNat_cast, Int.one_mul, show ((2 : Int) ^ ts.length) = ((2 ^ ts.length : Nat) : Int) by simp, Int.toNat_natCast] at hc
        have := Nat.pow_le_pow_right (n := 2) (by decide) hl
        omega
      simp only [tSeq, tRet, tRetN, tAsg, tIf, tIfS, tNext, tTest, tB, cx_K, cx_w, cx_nK, cx_nw, tOp, tUn, tVar, tC, tCons, tNil, tTup, tLst, tF, tM1, tCB, tAnd, tOr, tNot, tAndV, tOrV, tNotV, tChain, tFld, tPart, tNoPart, tSl, rU, rI0, rI, rEq, rNe, rIxD, rIxL, rIxT, rLen, rIsi, rLenQ, rTupOf, rIn, rSlL, rNewStrs, rAppend, rCat, gUnl, tDrop, wipe, List.foldl_cons, List.foldl_nil, StX.tMakeR, sFld, tLenSetN, rIndex, rSorted, rSortedT, rSetOfT, tPar, tPar3, tBM, rSum, rAll, rAny, tNever, gName, gTup, gCons, gNil, L2.start, List.map_cons, List.map_nil, List.length_cons, List.length_nil, List.cons_append, List.nil_append, List.set_cons_zero, List.set_cons_succ, List.getElem?_cons_zero, List.getElem?_cons_succ, Option.some.injEq, V.int.injEq, V.str.injEq, V.bl.injEq, V.ref.injEq, V.ty.injEq, List.cons.injEq, exists_and_left, exists_and_right, exists_eq_left, exists_eq_left', exists_eq, exists_eq', and_true, true_and, exists_const, List.replicate, Nat.sub_self, Nat.reduceAdd, Nat.reduceSub, if_true, if_false, Bool.false_eq_true, ite_true, ite_false, reduceIte]
      have ha8 := s7.seq ha
      refine ⟨.inl ⟨rfl, _, .of e7⟩, _, rfl, a, _, rfl, ha8, fun D hD => lcm (walk_enum (xs := ts.map V.int)) (by rw [List.length_map, sizeLine_eq]; omega) hD (fun k => V.int (ts.getD k 0 / 2 ^ c % 2 * 2 ^ k)) (fun H sa => sa.seq ha8) (fun k x H5 H' Q5 hk sa5 y hq => ?_) (fun H5 sa5 e5 => ?_)⟩
      · obtain ⟨T, x1, x2, rfl, hT, rfl, h1, h2⟩ := y
        cases h1
        have h2 : (ts.map V.int)[k]? = some x2 := h2
        rw [List.getElem?_map] at h2
        obtain ⟨z, hz, rfl⟩ := Option.map_eq_some_iff.mp h2
        refine ⟨T, _, rfl, .of upd_same, rfl, _, _, rfl, _, _, rfl, rfl, rfl, ?_⟩
        simp only [tSeq, tRet, tRetN, tAsg, tIf, tIfS, tNext, tTest, tB, cx_K, cx_w, cx_nK, cx_nw, tOp, tUn, tVar, tC, tCons, tNil, tTup, tLst, tF, tM1, tCB, tAnd, tOr, tNot, tAndV, tOrV, tNotV, tChain, tFld, tPart, tNoPart, tSl, rU, rI0, rI, rEq, rNe, rIxD, rIxL, rIxT, rLen, rIsi, rLenQ, rTupOf, rIn, rSlL, rNewStrs, rAppend, rCat, gUnl, tDrop, wipe, List.foldl_cons, List.foldl_nil, StX.tMakeR, sFld, tLenSetN, rIndex, rSorted, rSortedT, rSetOfT, tPar, tPar3, tBM, rSum, rAll, rAny, tNever, gName, gTup, gCons, gNil, L2.start, List.map_cons, List.map_nil, List.length_cons, List.length_nil, List.cons_append, List.nil_append, List.set_cons_zero, List.set_cons_succ, List.getElem?_cons_zero, List.getElem?_cons_succ, Option.some.injEq, V.int.injEq, V.str.injEq, V.bl.injEq, V.ref.injEq, V.ty.injEq, List.cons.injEq, exists_and_left, exists_and_right, exists_eq_left, exists_eq_left', exists_eq, exists_eq', and_true, true_and, exists_const, List.replicate, Nat.sub_self, Nat.reduceAdd, Nat.reduceSub, if_true, if_false, Bool.false_eq_true, ite_true, ite_false, reduceIte, toNat_cast, Int.zero_add, and1]
        rw [List.length_map] at hk
        refine ⟨by omega, ⟨by omega, by omega, by omega⟩, ?_⟩
        have e1 : ts.getD k 0 = z := by rw [List.getD_eq_getElem?_getD, hz]; rfl
        rw [← e1]
        exact hq _ (Same.upd (Same.refl H5) hT)
      · refine ⟨D, rfl, (List.range ts.length).map fun k => ts.getD k 0 / 2 ^ c % 2 * 2 ^ k, ?_, _, sa5 _ _ e7, ?_, ?_, ?_⟩
        · have q : SqL K H5 D _ := .of e5
          rw [List.length_map] at q
          rw [List.map_map]
          exact q
        · rw [List.length_map, List.length_range, sizeLine_eq]
          omega
        · exact Same.updD (s7.trans sa5) hl2
        · rw [upd_same, List.range_succ, List.map_append]
          rfl
    · obtain ⟨o, rfl, s7, e7⟩ := p
      show R _ _
      rw [hR]; clear hR R
      simp only [tSeq, tRet, tRetN, tAsg, tIf, tIfS, tNext, tTest, tB, cx_K, cx_w, cx_nK, cx_nw, tOp, tUn, tVar, tC, tCons, tNil, tTup, tLst, tF, tM1, tCB, tAnd, tOr, tNot, tAndV, tOrV, tNotV, tChain, tFld, tPart, tNoPart, tSl, rU, rI0, rI, rEq, rNe, rIxD, rIxL, rIxT, rLen, rIsi, rLenQ, rTupOf, rIn, rSlL, rNewStrs, rAppend, rCat, gUnl, tDrop, wipe, List.foldl_cons, List.foldl_nil, StX.tMakeR, sFld, tLenSetN, rIndex, rSorted, rSortedT, rSetOfT, tPar, tPar3, tBM, rSum, rAll, rAny, tNever, gName, gTup, gCons, gNil, L2.start, List.map_cons, List.map_nil, List.length_cons, List.length_nil, List.cons_append, List.nil_append, List.set_cons_zero, List.set_cons_succ, List.getElem?_cons_zero, List.getElem?_cons_succ, Option.some.injEq, V.int.injEq, V.str.injEq, V.bl.injEq, V.ref.injEq, V.ty.injEq, List.cons.injEq, exists_and_left, exists_and_right, exists_eq_left, exists_eq_left', exists_eq, exists_eq', and_true, true_and, exists_const, List.replicate, Nat.sub_self, Nat.reduceAdd, Nat.reduceSub, if_true, if_false, Bool.false_eq_true, ite_true, ite_false, reduceIte]
      refine ⟨_, .inl ⟨.of e7, fun t ht => k _ t (s7.trans (Same.upd (Same.refl _) ht)) (s7.free ht) ?_⟩⟩
      rw [upd_same]
      unfold movesOf
      rw [List.map_map]
      have hx : (((1 : Int) * 2 ^ (((ts.map V.int).length : Nat) : Int).toNat).toNat) = 2 ^ ts.length := by
        rw [List.length_map, toNat_cast, tn]
      rw [hx]
      rfl
def spLeast (K : PySem.W.Frag) : Sp := fun vs H Q _ => ∃ (a : Addr) (ms : List Int) (im : Nat), vs = [.ref a, .int im] ∧ SqT K H a (ms.map V.int) ∧ ms.length ≤ 256 ∧ ∀ H' t, Same H H' → H' t = some (.lst ((leastOf ms im).map fun k => V.int (k : Nat))) → Q (.ref t) H'
abbrev N_least_contents : List Str := ["moves", "image", "found", "content", "lesser", "k", "move"]
theorem sc_least_contents : FnScope N_least_contents ["moves", "image"] (defScope (top 73)) := ⟨rfl, rfl, rfl, by decide +kernel, rfl, by decide +kernel, by decide +kernel⟩
theorem F_least_contents (T : TX w K mg) : Fn P w K mg base 2 "least_contents" (spLeast K) := by
  obtain ⟨fd, F⟩ := T.fi 29
  have nd := sc_least_contents.nd
  have F_bits_of := F_bits_of (P := P) (base := base) T
  refine ⟨_, raw0 F sc_least_contents (fun vs H Q E h => ?_) (fun _ _ _ _ _ _ us hl => match us, hl with | [_, _], _ => rfl) (fun cdv A outer s H vs Q E hr h => ?_), T.g "least_contents", F.kp⟩
  · obtain ⟨a, ms, im, rfl, ha, hl, k⟩ := h
    rfl
  · obtain ⟨a, ms, im, rfl, ha, hl, k⟩ := h
    refine ⟨_, (pss_cons (ps_set (i := 2) nd rfl (Or.inl rfl) (pe_lst pa_nil))
    (pss_cons (ps_for PassesOwn.never rfl (pi_range1 (by rfl) (T.z "range") (pa_cons (pe_callB call_len_seq (by rfl) (T.z "len") (by decide +kernel) (pa_cons (pv 0) pa_nil)) pa_nil)) (pg_name (i := 3) nd rfl (Or.inr rfl)) (pss_one (ps_if (pt_cmpR op_eq (pe_op op_and (pe_op op_shr (pe_ix ix_tup (pv 0) (pv 3) (fun _ _ => rfl)) (pv 1)) (pe_int)) (pe_int) (nomark _)) (pss_cons (ps_setLc (i := 4) (own := [("k", 5)]) (g := gName 5) (tt := tYes) (by rfl) nd rfl rfl (sw_true rfl rfl rfl (by decide +kernel)) (pi_list (pe_f F_bits_of hr (pa_cons (pv 3) pa_nil))) (blkOk_by (own := [("k", 5)]) (N := N_least_contents) (sc := (defScope (top 73))) (by decide +kernel)) (fun _ _ _ _ _ => (pg_name (i := 5) nd rfl (Or.inl rfl))) (fun _ _ _ _ _ => pts_nil) (fun _ _ _ _ _ => (pe_ix (r := rIxT K) ix_tup (pv 0) (pe_op op_sub (pv 3) (pe_op op_shl (pe_int) (pv 5))) (fun _ _ => rfl))))
    (pss_one (ps_if (pt_val (pe_callB (cr_all rfl) (by rfl) (T.z "all") (by decide +kernel) (pa_cons (pe_lc (own := [("move", 6)]) (g := gName 6) (tt := tYes) (by rfl) nd (pi_list (pv 4)) (blkOk_by (own := [("move", 6)]) (N := N_least_contents) (sc := (defScope (top 73))) (by decide +kernel)) (fun _ _ _ _ _ => (pg_name (i := 6) nd rfl (Or.inl rfl))) (fun _ _ _ _ _ => pts_nil) (fun _ _ _ _ _ => (pe_cmpR op_eq (pe_op op_and (pe_op op_shr (pv 6) (pv 1)) (pe_int)) (pe_int) (nomark _)))) pa_nil))) (pss_one (ps_expr (pe_bm PySem.F.plainAttrs_list PySem.F.slot_list_append PySem.F.type_list_append mt_append (pv 2) (pa_cons (pv 3) pa_nil)))) pss_nil))) pss_nil)))
    (pss_one (ps_ret (pv 2))))), ?_⟩
    refine seqG fun R hR => ?_
    simp only [tSeq, tRet, tRetN, tAsg, tIf, tIfS, tNext, tTest, tB, cx_K, cx_w, cx_nK, cx_nw, tOp, tUn, tVar, tC, tCons, tNil, tTup, tLst, tF, tM1, tCB, tAnd, tOr, tNot, tAndV, tOrV, tNotV, tChain, tFld, tPart, tNoPart, tSl, rU, rI0, rI, rEq, rNe, rIxD, rIxL, rIxT, rLen, rIsi, rLenQ, rTupOf, rIn, rSlL, rNewStrs, rAppend, rCat, gUnl, tDrop, wipe, List.foldl_cons, List.foldl_nil, StX.tMakeR, sFld, tLenSetN, rIndex, rSorted, rSortedT, rSetOfT, tPar, tPar3, tBM, rSum, rAll, rAny, tNever, gName, gTup, gCons, gNil, L2.start, List.map_cons, List.map_nil, List.length_cons, List.length_nil, List.cons_append, List.nil_append, List.set_cons_zero, List.set_cons_succ, List.getElem?_cons_zero, List.getElem?_cons_succ, Option.some.injEq, V.int.injEq, V.str.injEq, V.bl.injEq, V.ref.injEq, V.ty.injEq, List.cons.injEq, exists_and_left, exists_and_right, exists_eq_left, exists_eq_left', exists_eq, exists_eq', and_true, true_and, exists_const, List.replicate, Nat.sub_self, Nat.reduceAdd, Nat.reduceSub, if_true, if_false, Bool.false_eq_true, ite_true, ite_false, reduceIte]
    refine ⟨by rw [sizeLine_eq]; decide, fun l hl2 => ?_⟩
    have s1 : Same H (upd H l (.lst [])) := Same.upd (Same.refl H) hl2
    have ha1 : SqT K (upd H l (.lst [])) a (ms.map V.int) := Same.tup s1 ha
    rw [hR]; clear hR R
    refine seqG fun R hR => ?_
    refine ⟨_, rfl, a, _, rfl, .inr ha1, (ms.map V.int).length, rfl, ?_, ?_, for_it walk_range (fun c σ H7 => ∃ o o2, σ = [some (V.ref a), some (V.int im), some (V.ref l), o, o2, none, none] ∧ Same H H7 ∧ H7 l = some (.lst (((List.range c).filter (leastB ms im)).map fun k => V.int (k : Nat)))) ⟨none, none, rfl, s1, upd_same⟩ (fun _ _ _ _ _ => trivial) (fun c x σ7 H7 H8 hc p y => ?_) (fun σ7 H7 p => ?_)⟩
    · omega
    · rw [List.length_map]
      omega
    · obtain ⟨o, o2, rfl, s7, e7⟩ := p
      obtain ⟨rfl, rfl⟩ := y
      have hc2 : c < ms.length := by
        rw [List.length_map, toNat_cast] at hc
        exact hc
      have em : ms[c]? = some ms[c] := List.getElem?_eq_getElem hc2
      have emd : ms.getD c 0 = ms[c] := by rw [List.getD_eq_getElem?_getD, em]; rfl
      have am : atI (ms.map V.int) (c : Nat) = some (V.int ms[c]) := atI_nat (by rw [List.getElem?_map, em]; rfl)
      have ha8 := Same.tup s7 ha
      show tIfS _ _ _ _ _ _
      simp only [tSeq, tRet, tRetN, tAsg, tIf, tIfS, tNext, tTest, tB, cx_K, cx_w, cx_nK, cx_nw, tOp, tUn, tVar, tC, tCons, tNil, tTup, tLst, tF, tM1, tCB, tAnd, tOr, tNot, tAndV, tOrV, tNotV, tChain, tFld, tPart, tNoPart, tSl, rU, rI0, rI, rEq, rNe, rIxD, rIxL, rIxT, rLen, rIsi, rLenQ, rTupOf, rIn, rSlL, rNewStrs, rAppend, rCat, gUnl, tDrop, wipe, List.foldl_cons, List.foldl_nil, StX.tMakeR, sFld, tLenSetN, rIndex, rSorted, rSortedT, rSetOfT, tPar, tPar3, tBM, rSum, rAll, rAny, tNever, gName, gTup, gCons, gNil, L2.start, List.map_cons, List.map_nil, List.length_cons, List.length_nil, List.cons_append, List.nil_append, List.set_cons_zero, List.set_cons_succ, List.getElem?_cons_zero, List.getElem?_cons_succ, Option.some.injEq, V.int.injEq, V.str.injEq, V.bl.injEq, V.ref.injEq, V.ty.injEq, List.cons.injEq, exists_and_left, exists_and_right, exists_eq_left, exists_eq_left', exists_eq, exists_eq', and_true, true_and, exists_const, List.replicate, Nat.sub_self, Nat.reduceAdd, Nat.reduceSub, if_true, if_false, Bool.false_eq_true, ite_true, ite_false, reduceIte, Int.zero_add, and1, toNat_cast]
      refine ⟨_, ha8, _, am, _, rfl, by omega, rfl, ?_⟩
      have hno : leastB ms im c = false → Same H H8 ∧ H8 l = some (.lst (((List.range (c + 1)).filter (leastB ms im)).map fun k => V.int (k : Nat))) := fun q => by
        refine ⟨s7, ?_⟩
        rw [e7, List.range_succ, List.filter_append]
        simp [q]
      by_cases q : ms[c] / 2 ^ im % 2 = 1
      · rw [decide_eq_true q]
        refine iteT ⟨_, rfl, c, rfl, fun H9 t s9 e9 => ⟨t, rfl, ⟨_, .of e9⟩, fun D hD => lcm walk_list (by rw [List.length_map, sizeLine_eq]; have := bitsOf_len c; omega) hD (fun b => V.int (ms.getD (c - 2 ^ ((bitsOf c).getD b 0)) 0)) (fun H sa => sa.seq (.of e9)) (fun b x H5 H' Q5 hb sa5 y hq => ?_) (fun H5 sa5 e5 => ?_)⟩⟩
        · obtain ⟨rfl, hx⟩ := y
          rw [List.getElem?_map] at hx
          obtain ⟨k1, hk1, rfl⟩ := Option.map_eq_some_iff.mp hx
          obtain ⟨b1, b2⟩ := bitsOf_mem (List.mem_of_getElem? hk1)
          have ek : (bitsOf c).getD b 0 = k1 := by rw [List.getD_eq_getElem?_getD, hk1]; rfl
          have hlt : c - 2 ^ k1 < ms.length := Nat.lt_of_le_of_lt (Nat.sub_le _ _) hc2
          have ex : ms[c - 2 ^ k1]? = some ms[c - 2 ^ k1] := List.getElem?_eq_getElem hlt
          have ha5 : SqT K H' a (ms.map V.int) := Same.tup sa5 (Same.tup s9 ha8)
          refine ⟨rfl, ?_⟩
          simp only [tSeq, tRet, tRetN, tAsg, tIf, tIfS, tNext, tTest, tB, cx_K, cx_w, cx_nK, cx_nw, tOp, tUn, tVar, tC, tCons, tNil, tTup, tLst, tF, tM1, tCB, tAnd, tOr, tNot, tAndV, tOrV, tNotV, tChain, tFld, tPart, tNoPart, tSl, rU, rI0, rI, rEq, rNe, rIxD, rIxL, rIxT, rLen, rIsi, rLenQ, rTupOf, rIn, rSlL, rNewStrs, rAppend, rCat, gUnl, tDrop, wipe, List.foldl_cons, List.foldl_nil, StX.tMakeR, sFld, tLenSetN, rIndex, rSorted, rSortedT, rSetOfT, tPar, tPar3, tBM, rSum, rAll, rAny, tNever, gName, gTup, gCons, gNil, L2.start, List.map_cons, List.map_nil, List.length_cons, List.length_nil, List.cons_append, List.nil_append, List.set_cons_zero, List.set_cons_succ, List.getElem?_cons_zero, List.getElem?_cons_succ, Option.some.injEq, V.int.injEq, V.str.injEq, V.bl.injEq, V.ref.injEq, V.ty.injEq, List.cons.injEq, exists_and_left, exists_and_right, exists_eq_left, exists_eq_left', exists_eq, exists_eq', and_true, true_and, exists_const, List.replicate, Nat.sub_self, Nat.reduceAdd, Nat.reduceSub, if_true, if_false, Bool.false_eq_true, ite_true, ite_false, reduceIte, toNat_cast]
          refine ⟨⟨by omega, by omega, by decide⟩, _, ha5, V.int (ms.getD (c - 2 ^ k1) 0), ?_, ?_⟩
          · rw [show ((c : Int) - 1 * 2 ^ k1) = ((c - 2 ^ k1 : Nat) : Int) by rw [Int.one_mul, Int.ofNat_sub b2]; simp]
            exact atI_nat (by rw [List.getElem?_map, ex, List.getD_eq_getElem?_getD, ex]; rfl)
          · have := hq _ (Same.refl _)
            rw [ek] at this
            exact this
        · rw [List.length_map] at e5
          refine ⟨_, rfl, D, rfl, ⟨_, .of e5⟩, fun D2 hD2 => lcm walk_list (by rw [List.length_map, List.length_range, sizeLine_eq]; have := bitsOf_len c; omega) hD2 (fun b => V.bl (decide (ms.getD (c - 2 ^ ((bitsOf c).getD b 0)) 0 / 2 ^ im % 2 = 0))) (fun H sa => sa.seq (.of e5)) (fun b x H6 H' Q6 hb sa6 y hq => ?_) (fun H6 sa6 e6 => ?_)⟩
          · obtain ⟨rfl, hx⟩ := y
            rw [List.length_map, List.length_range] at hb
            rw [List.getElem?_map, List.getElem?_range hb] at hx
            cases hx
            refine ⟨rfl, ?_⟩
            simp only [tSeq, tRet, tRetN, tAsg, tIf, tIfS, tNext, tTest, tB, cx_K, cx_w, cx_nK, cx_nw, tOp, tUn, tVar, tC, tCons, tNil, tTup, tLst, tF, tM1, tCB, tAnd, tOr, tNot, tAndV, tOrV, tNotV, tChain, tFld, tPart, tNoPart, tSl, rU, rI0, rI, rEq, rNe, rIxD, rIxL, rIxT, rLen, rIsi, rLenQ, rTupOf, rIn, rSlL, rNewStrs, rAppend, rCat, gUnl, tDrop, wipe, List.foldl_cons, List.foldl_nil, StX.tMakeR, sFld, tLenSetN, rIndex, rSorted, rSortedT, rSetOfT, tPar, tPar3, tBM, rSum, rAll, rAny, tNever, gName, gTup, gCons, gNil, L2.start, List.map_cons, List.map_nil, List.length_cons, List.length_nil, List.cons_append, List.nil_append, List.set_cons_zero, List.set_cons_succ, List.getElem?_cons_zero, List.getElem?_cons_succ, Option.some.injEq, V.int.injEq, V.str.injEq, V.bl.injEq, V.ref.injEq, V.ty.injEq, List.cons.injEq, exists_and_left, exists_and_right, exists_eq_left, exists_eq_left', exists_eq, exists_eq', and_true, true_and, exists_const, List.replicate, Nat.sub_self, Nat.reduceAdd, Nat.reduceSub, if_true, if_false, Bool.false_eq_true, ite_true, ite_false, reduceIte, toNat_cast, and1]
            exact ⟨by omega, rfl, hq _ (Same.refl _)⟩
          · rw [List.length_map, List.length_range] at e6
            have s69 := s7.trans (s9.trans (sa5.trans sa6))
            have el6 := sa6 _ _ (sa5 _ _ (s9 _ _ e7))
            refine ⟨D2, rfl, (List.range (bitsOf c).length).map fun b => decide (ms.getD (c - 2 ^ ((bitsOf c).getD b 0)) 0 / 2 ^ im % 2 = 0), by rw [List.map_map]; exact .of e6, ?_⟩
            have hall : ((List.range (bitsOf c).length).map fun b => decide (ms.getD (c - 2 ^ ((bitsOf c).getD b 0)) 0 / 2 ^ im % 2 = 0)).all id = (bitsOf c).all fun k => decide (ms.getD (c - 2 ^ k) 0 / 2 ^ im % 2 = 0) := by
              rw [List.all_map]
              rw [Bool.eq_iff_iff, List.all_eq_true, List.all_eq_true]
              constructor
              · intro h x hx
                obtain ⟨b, hb, rfl⟩ := List.getElem_of_mem hx
                have := h b (List.mem_range.mpr hb)
                have eg : (bitsOf c).getD b 0 = (bitsOf c)[b] := by rw [List.getD_eq_getElem?_getD, List.getElem?_eq_getElem hb]; rfl
                rw [Function.comp_apply, eg] at this
                exact this
              · intro h b hb
                have hb := List.mem_range.mp hb
                have eg : (bitsOf c).getD b 0 = (bitsOf c)[b] := by rw [List.getD_eq_getElem?_getD, List.getElem?_eq_getElem hb]; rfl
                rw [Function.comp_apply, eg]
                exact h _ (List.getElem_mem hb)
            rw [hall]
            have hB : leastB ms im c = ((bitsOf c).all fun k => decide (ms.getD (c - 2 ^ k) 0 / 2 ^ im % 2 = 0)) := by
              unfold leastB
              rw [emd, decide_eq_true q, Bool.true_and]
            rw [← hB]
            cases qb : leastB ms im c with
            | true =>
              refine iteT ⟨.inl ⟨rfl, _, .of el6⟩, _, el6, ?_, Same.updD s69 hl2, ?_⟩
              · rw [List.length_map]
                have := List.length_filter_le (leastB ms im) (List.range c)
                rw [List.length_range] at this
                rw [sizeLine_eq]
                omega
              · rw [upd_same, List.range_succ, List.filter_append]
                simp [qb]
            | false =>
              refine iteF ⟨s69, ?_⟩
              rw [el6, List.range_succ, List.filter_append]
              simp [qb]
      · rw [decide_eq_false q]
        refine iteF (hno ?_)
        unfold leastB
        rw [emd, decide_eq_false q, Bool.false_and]
    · obtain ⟨o, o2, rfl, s7, e7⟩ := p
      show R _ _
      rw [hR]; clear hR R
      simp only [tSeq, tRet, tRetN, tAsg, tIf, tIfS, tNext, tTest, tB, cx_K, cx_w, cx_nK, cx_nw, tOp, tUn, tVar, tC, tCons, tNil, tTup, tLst, tF, tM1, tCB, tAnd, tOr, tNot, tAndV, tOrV, tNotV, tChain, tFld, tPart, tNoPart, tSl, rU, rI0, rI, rEq, rNe, rIxD, rIxL, rIxT, rLen, rIsi, rLenQ, rTupOf, rIn, rSlL, rNewStrs, rAppend, rCat, gUnl, tDrop, wipe, List.foldl_cons, List.foldl_nil, StX.tMakeR, sFld, tLenSetN, rIndex, rSorted, rSortedT, rSetOfT, tPar, tPar3, tBM, rSum, rAll, rAny, tNever, gName, gTup, gCons, gNil, L2.start, List.map_cons, List.map_nil, List.length_cons, List.length_nil, List.cons_append, List.nil_append, List.set_cons_zero, List.set_cons_succ, List.getElem?_cons_zero, List.getElem?_cons_succ, Option.some.injEq, V.int.injEq, V.str.injEq, V.bl.injEq, V.ref.injEq, V.ty.injEq, List.cons.injEq, exists_and_left, exists_and_right, exists_eq_left, exists_eq_left', exists_eq, exists_eq', and_true, true_and, exists_const, List.replicate, Nat.sub_self, Nat.reduceAdd, Nat.reduceSub, if_true, if_false, Bool.false_eq_true, ite_true, ite_false, reduceIte]
      refine k _ l s7 ?_
      rw [e7, List.length_map, toNat_cast]
      rfl
end
end Sq

set_option Elab.async false
set_option linter.all false
set_option maxRecDepth 100000
set_option maxHeartbeats 4000000
/-! ## Walks: the rounds of a nest -/
namespace Sq
open PySem PySem.Spec PyProof.Rows L2 He
/-! ### a sort that reduces -/
def ins {α : Type} (le : α → α → Bool) (x : α) : List α → List α
  | [] => [x]
  | y :: r => if le x y = true then x :: y :: r else y :: ins le x r
def isort {α : Type} (le : α → α → Bool) : List α → List α
  | [] => []
  | x :: r => ins le x (isort le r)
theorem ins_perm {α : Type} (le : α → α → Bool) (x : α) : ∀ l : List α, (ins le x l).Perm (x :: l)
  | [] => .refl _
  | y :: r => by
    unfold ins
    split
    · exact .refl _
    · exact ((ins_perm le x r).cons y).trans (.swap x y r)
theorem isort_perm {α : Type} (le : α → α → Bool) : ∀ l : List α, (isort le l).Perm l
  | [] => .refl _
  | x :: r => (ins_perm le x _).trans ((isort_perm le r).cons x)
theorem ins_pw {α : Type} {le : α → α → Bool} (tr : ∀ a b c, le a b = true → le b c = true → le a c = true) (tot : ∀ a b, (le a b || le b a) = true) (x : α) : ∀ l : List α, l.Pairwise (fun a b => le a b = true) → (ins le x l).Pairwise fun a b => le a b = true
  | [], _ => by simp [ins]
  | y :: r, h => by
    obtain ⟨h1, h2⟩ := List.pairwise_cons.mp h
    unfold ins
    split
    · rename_i q
      refine List.pairwise_cons.mpr ⟨fun z hz => ?_, h⟩
      rcases List.mem_cons.mp hz with e | hz
      · rw [e]; exact q
      · exact tr _ _ _ q (h1 z hz)
    · rename_i q
      refine List.pairwise_cons.mpr ⟨fun z hz => ?_, ins_pw tr tot x r h2⟩
      rcases List.mem_cons.mp ((ins_perm le x r).mem_iff.mp hz) with e | hz
      · rw [e]
        have := tot x y
        cases q2 : le y x with
        | true => rfl
        | false =>
          rw [q2, Bool.or_false] at this
          exact absurd this q
      · exact h1 z hz
theorem isort_pw {α : Type} {le : α → α → Bool} (tr : ∀ a b c, le a b = true → le b c = true → le a c = true) (tot : ∀ a b, (le a b || le b a) = true) : ∀ l : List α, (isort le l).Pairwise fun a b => le a b = true
  | [] => .nil
  | x :: r => ins_pw tr tot x _ (isort_pw tr tot r)
theorem msort_eq {α : Type} {le : α → α → Bool} (tr : ∀ a b c, le a b = true → le b c = true → le a c = true) (tot : ∀ a b, (le a b || le b a) = true) (anti : ∀ a b, le a b = true → le b a = true → a = b) (l : List α) : l.mergeSort le = isort le l :=
  List.Perm.eq_of_pairwise (le := fun a b => le a b = true) (fun a b _ _ h k => anti a b h k) (List.pairwise_mergeSort tr tot l) (isort_pw tr tot l) ((List.mergeSort_perm l le).trans (isort_perm le l).symm)
/-! ### nests, programs -/
def inB (ns : Ns) (n : Int) (c : Cell) : Bool := ns.over.has n 0 c.1 && ns.below.has n c.1 c.2
def keyOf (ns : Ns) (c : Cell) : List Int := [if ns.over.down then -c.1 else c.1, if ns.below.down then -c.2 else c.2, c.1, c.2]
def keyLe (ns : Ns) (a b : Cell) : Bool := decide (keyOf ns a ≤ keyOf ns b)
def roundsOf (ns : Ns) (n : Int) (cs : List Cell) : List Cell := isort (keyLe ns) (cs.filter (inB ns n))
theorem keyOf_inj {ns : Ns} {a b : Cell} (h : keyOf ns a = keyOf ns b) : a = b := by
  unfold keyOf at h
  simp only [List.cons.injEq, and_true] at h
  exact Prod.ext h.2.2.1 h.2.2.2
theorem keyLe_anti {ns : Ns} (a b : Cell) (h : keyLe ns a b = true) (k : keyLe ns b a = true) : a = b := keyOf_inj (List.le_antisymm (of_decide_eq_true h) (of_decide_eq_true k))
theorem keyLe_tot {ns : Ns} (a b : Cell) : (keyLe ns a b || keyLe ns b a) = true := by
  rcases List.le_total (keyOf ns a) (keyOf ns b) with h | h
  · unfold keyLe; rw [decide_eq_true h, Bool.true_or]
  · unfold keyLe; rw [decide_eq_true h, Bool.or_true]
theorem keyLe_trans {ns : Ns} (a b c : Cell) (h : keyLe ns a b = true) (k : keyLe ns b c = true) : keyLe ns a c = true := decide_eq_true (List.le_trans (of_decide_eq_true h) (of_decide_eq_true k))
theorem dpAll_ints {K : PySem.W.Frag} {H : Hp} : ∀ ns : List Int, DpAll K H (ns.map V.int) (ns.map PyData.int)
  | [] => .nil
  | n :: ns => .cons (.int n) (dpAll_ints ns)
/-- refs that stand for cells, as pairs -/
theorem cells_zip {H : Hp} {ts : List Addr} {cs : List Cell} (hl : ts.length = cs.length) (h : ∀ (a : Nat) (t : Addr), ts[a]? = some t → ∃ c, cs[a]? = some c ∧ CellAt H t c) :
    (ts.zip cs).map (fun r => V.ref r.1) = ts.map V.ref ∧ (ts.zip cs).map (·.2) = cs ∧ ∀ r ∈ ts.zip cs, CellAt H r.1 r.2 := by
  have e1 : (ts.zip cs).map Prod.fst = ts := List.map_fst_zip (by omega)
  refine ⟨?_, List.map_snd_zip (by omega), fun r hr => ?_⟩
  · have := congrArg (List.map V.ref) e1
    rw [List.map_map] at this
    exact this
  · obtain ⟨a, ha, e⟩ := List.getElem_of_mem hr
    have e2 : (ts.zip cs)[a]? = some r := by rw [List.getElem?_eq_getElem ha, e]
    obtain ⟨h1, h2⟩ := List.getElem?_zip_eq_some.mp e2
    obtain ⟨c, h3, h4⟩ := h a r.1 h1
    rw [h2] at h3
    cases h3
    exact h4
section
variable {P : Program} {w : World} {K : PySem.W.Frag} {mg : Str → Option Value} {base : Heap}
def NestAt (K : PySem.W.Frag) (H : Hp) (a : Addr) (ns : Ns) : Prop := ∃ dx te ps da, H a = some (.ins (ga K "Nest") dx [("over", .str ns.over.txt), ("below", .str ns.below.txt), ("texts", .ref te), ("parsed", .ref ps)]) ∧ SqL K H ps [.ref da] ∧ DeedAt K H da ns.deed
theorem NestAt.same {H H' : Hp} {a : Addr} {d : Ns} (h : NestAt K H a d) (s : Same H H') : NestAt K H' a d := by
  obtain ⟨dx, te, ps, da, e, e1, e2⟩ := h
  exact ⟨dx, te, ps, da, s _ _ e, s.seq e1, e2.same s⟩
/-- a list of cells -/
def CellsL (H : Hp) (t : Addr) (rs : List (Addr × Cell)) : Prop := H t = some (.lst (rs.map fun r => V.ref r.1)) ∧ ∀ r ∈ rs, CellAt H r.1 r.2
def NsOk (ns : Ns) : Prop := ns.over ∈ lps ∧ ns.below ∈ lps ∧ ns.deed ∈ dds ∧ ns.over.outer = true
def spOrbitRounds (K : PySem.W.Frag) : Sp := fun vs H Q _ => ∃ (na ca : Addr) (n : Int) (ns : Ns) (ps : List (Addr × Cell)), vs = [.ref na, .int n, .ref ca] ∧ NestAt K H na ns ∧ NsOk ns ∧ CellsAt H ca ps ∧ ps.length ≤ 8 ∧
  ∀ (H' : Hp) (t : Addr) (rs : List (Addr × Cell)), Same H H' → CellsL H' t rs → rs.map (·.2) = roundsOf ns n (ps.map (·.2)) → Q (.ref t) H'
abbrev N_orbit_rounds : List Str := ["nest", "size", "cells", "found", "i", "j", "first", "then"]
theorem sc_orbit_rounds : FnScope N_orbit_rounds ["nest", "size", "cells"] (defScope (top 66)) := ⟨rfl, rfl, rfl, by decide +kernel, rfl, by decide +kernel, by decide +kernel⟩
theorem F_orbit_rounds (T : TX w K mg) : Fn P w K mg base 4 "orbit_rounds" (spOrbitRounds K) := by
  obtain ⟨fd, F⟩ := T.fi 24
  have nd := sc_orbit_rounds.nd
  have F_in_loop := F_in_loop (P := P) (base := base) T
  have F_goes_down := F_goes_down (P := P) (base := base) T
  refine ⟨_, raw0 F sc_orbit_rounds (fun vs H Q E h => ?_) (fun _ _ _ _ _ _ us hl => match us, hl with | [_, _, _], _ => rfl) (fun cdv A outer s H vs Q E hr h => ?_), T.g "orbit_rounds", F.kp⟩
  · obtain ⟨na, ca, n, ns, ps, rfl, hn, ok, hc, hl, k⟩ := h
    rfl
  · obtain ⟨na, ca, n, ns, ps, rfl, hn, ok, hc, hl, k⟩ := h
    refine ⟨_, (pss_cons (ps_set (i := 3) nd rfl (Or.inl rfl) (pe_lst pa_nil))
    (pss_cons (ps_for PassesOwn.never rfl (pi_tup (pv 2)) (pg_tup (n := 2) rfl (pgs_cons (pg_name (i := 4) nd rfl (Or.inl rfl)) (pgs_cons (pg_name (i := 5) nd rfl (Or.inl rfl)) pgs_nil))) (pss_one (ps_if (PW.pt (pw_and (pt_val (pe_f F_in_loop hr (pa_cons (pe_fld (pv 0) rfl) (pa_cons (pv 1) (pa_cons (pe_non) (pa_cons (pv 4) pa_nil)))))) (pw_and1 (pt_val (pe_f F_in_loop hr (pa_cons (pe_fld (pv 0) rfl) (pa_cons (pv 1) (pa_cons (pv 4) (pa_cons (pv 5) pa_nil))))))))) (pss_one (ps_expr (pe_bm PySem.F.plainAttrs_list PySem.F.slot_list_append PySem.F.type_list_append mt_append (pv 3) (pa_cons (pe_tup (pa_cons (pe_ifExp (pt_val (pe_f F_goes_down hr (pa_cons (pe_fld (pv 0) rfl) pa_nil))) (pe_un un_neg (pv 4)) (pv 4)) (pa_cons (pe_ifExp (pt_val (pe_f F_goes_down hr (pa_cons (pe_fld (pv 0) rfl) pa_nil))) (pe_un un_neg (pv 5)) (pv 5)) (pa_cons (pv 4) (pa_cons (pv 5) pa_nil))))) pa_nil)))) pss_nil)))
    (pss_one (ps_ret (pe_lc (own := [("first", 6), ("then", 7), ("i", 4), ("j", 5)]) (tt := tYes) (by rfl) nd (pi_list (pe_callB (r := rSortedD K) (cr_sortedD hr.units) (by rfl) (T.z "sorted") (by decide +kernel) (pa_cons (pv 3) pa_nil))) (blkOk_by (own := [("first", 6), ("then", 7), ("i", 4), ("j", 5)]) (N := N_orbit_rounds) (sc := (defScope (top 66))) (by decide +kernel)) (fun _ _ _ _ _ => (pg_tup (n := 4) rfl (pgs_cons (pg_name (i := 6) nd rfl (Or.inl rfl)) (pgs_cons (pg_name (i := 7) nd rfl (Or.inl rfl)) (pgs_cons (pg_name (i := 4) nd rfl (Or.inl rfl)) (pgs_cons (pg_name (i := 5) nd rfl (Or.inl rfl)) pgs_nil)))) : PG _ _ (gTup K 4 _))) (fun _ _ _ _ _ => pts_nil) (fun _ _ _ _ _ => (pe_tup (pa_cons (pv 4) (pa_cons (pv 5) pa_nil))))))))), ?_⟩
    obtain ⟨dx, te, pa, da, e0, e1, e2⟩ := hn
    obtain ⟨k1, k2, k3, k4⟩ := ok
    refine seqG fun R hR => ?_
    simp only [tSeq, tRet, tRetN, tAsg, tIf, tIfS, tNext, tTest, tB, cx_K, cx_w, cx_nK, cx_nw, tOp, tUn, tVar, tC, tCons, tNil, tTup, tLst, tF, tM1, tCB, tAnd, tOr, tNot, tAndV, tOrV, tNotV, tChain, tFld, tPart, tNoPart, tSl, rU, rI0, rI, rEq, rNe, rIxD, rIxL, rIxT, rLen, rIsi, rLenQ, rTupOf, rIn, rSlL, rNewStrs, rAppend, rCat, gUnl, tDrop, wipe, List.foldl_cons, List.foldl_nil, StX.tMakeR, sFld, tLenSetN, rIndex, rSorted, rSortedT, rSetOfT, tPar, tPar3, tBM, rSum, rAll, rAny, tNever, gName, gTup, gCons, gNil, L2.start, List.map_cons, List.map_nil, List.length_cons, List.length_nil, List.cons_append, List.nil_append, List.set_cons_zero, List.set_cons_succ, List.getElem?_cons_zero, List.getElem?_cons_succ, Option.some.injEq, V.int.injEq, V.str.injEq, V.bl.injEq, V.ref.injEq, V.ty.injEq, List.cons.injEq, exists_and_left, exists_and_right, exists_eq_left, exists_eq_left', exists_eq, exists_eq', and_true, true_and, exists_const, List.replicate, Nat.sub_self, Nat.reduceAdd, Nat.reduceSub, if_true, if_false, Bool.false_eq_true, ite_true, ite_false, reduceIte]
    refine ⟨by rw [sizeLine_eq]; decide, fun l hl2 => ?_⟩
    have s1 : Same H (upd H l (.lst [])) := Same.upd (Same.refl H) hl2
    rw [hR]; clear hR R
    refine seqG fun R hR => ?_
    have hcl : (ps.map fun p => V.ref p.1).length = ps.length := by rw [List.length_map]
    obtain ⟨Pv, hPv⟩ : ∃ Pv : Nat → L2.St → Hp → Prop, Pv = fun c σ H7 => ∃ (o o2 : Option V) (qs : List (Addr × Cell)), σ = [some (V.ref na), some (V.int n), some (V.ref ca), some (V.ref l), o, o2, none, none] ∧ Same H H7 ∧ H7 l = some (.lst (qs.map fun q : Addr × Cell => V.ref q.1)) ∧
      (∀ q ∈ qs, H7 q.1 = some (.tup ((keyOf ns q.2).map V.int))) ∧ qs.map (·.2) = ((ps.map (·.2)).take c).filter (inB ns n) ∧ qs.length ≤ c := ⟨_, rfl⟩
    refine ⟨_, rfl, ca, rfl, ⟨_, (hc.same s1).sq⟩, for_it (walk_tup (xs := ps.map fun p => V.ref p.1)) Pv (by rw [hPv]; exact ⟨none, none, [], rfl, s1, upd_same, fun q hq => (by cases hq), rfl, Nat.le_refl _⟩) (fun c σ H7 _ p => ?_) (fun c x σ7 H7 H8 hc7 p y => ?_) (fun σ7 H7 p => ?_)⟩
    · rw [hPv] at p
      obtain ⟨o, o2, qs, _, s7, _⟩ := p
      exact (hc.same s7).sq
    · rw [hPv] at p
      obtain ⟨o, o2, qs, rfl, s7, e7, t7, f7, l7⟩ := p
      obtain ⟨rfl, hx⟩ := y
      rw [List.getElem?_map] at hx
      obtain ⟨q, hq, rfl⟩ := Option.map_eq_some_iff.mp hx
      have hcq := s7 _ _ (hc.2 q (List.mem_of_getElem? hq))
      rw [List.length_map] at hc7
      have ht : (ps.map (·.2)).take (c + 1) = (ps.map (·.2)).take c ++ [q.2] := by rw [List.take_succ, List.getElem?_map, hq]; rfl
      have hno : inB ns n q.2 = false → ∀ H9, Same H8 H9 → Pv (c + 1) [some (V.ref na), some (V.int n), some (V.ref ca), some (V.ref l), some (V.int q.2.1), some (V.int q.2.2), none, none] H9 := fun hb H9 s9 => by
        rw [hPv]
        refine ⟨_, _, qs, rfl, s7.trans s9, s9 _ _ e7, fun r hr => s9 _ _ (t7 r hr), ?_, by omega⟩
        rw [ht, List.filter_append, f7]
        simp [hb]
      have leaf : inB ns n q.2 = true → ∀ (a b : Int) (H9 : Hp), [a, b, q.2.1, q.2.2] = keyOf ns q.2 → Same H8 H9 → 4 ≤ sizeLine ∧ ∀ (p : Addr), H9 p = none → ∃ x, upd H9 p (.tup [V.int a, V.int b, V.int q.2.1, V.int q.2.2]) l = some (.lst x) ∧ x.length < sizeLine ∧
          Pv (c + 1) [some (V.ref na), some (V.int n), some (V.ref ca), some (V.ref l), some (V.int q.2.1), some (V.int q.2.2), none, none] (upd (upd H9 p (.tup [V.int a, V.int b, V.int q.2.1, V.int q.2.2])) l (.lst (x ++ [V.ref p]))) := fun hb a b H9 hk s9 => by
        refine ⟨by rw [sizeLine_eq]; decide, fun p hp => ?_⟩
        have sp1 : Same H9 (upd H9 p (.tup [V.int a, V.int b, V.int q.2.1, V.int q.2.2])) := Same.upd (Same.refl H9) hp
        have el := sp1 _ _ (s9 _ _ e7)
        refine ⟨_, el, by rw [List.length_map, sizeLine_eq]; omega, ?_⟩
        rw [hPv]
        have hpl : p ≠ l := fun e => by rw [e, s9 _ _ e7] at hp; cases hp
        refine ⟨_, _, qs ++ [(p, q.2)], rfl, Same.updD ((s7.trans s9).trans sp1) hl2, ?_, fun r hr => ?_, ?_, by rw [List.length_append]; simp; omega⟩
        · rw [upd_same, List.map_append]
          rfl
        · rcases List.mem_append.mp hr with hr | hr
          · have h8 := sp1 _ _ (s9 _ _ (t7 r hr))
            have nl : r.1 ≠ l := fun e => by rw [e, el] at h8; cases h8
            rw [upd_ne nl]
            exact h8
          · rw [List.mem_singleton] at hr
            subst hr
            rw [upd_ne hpl, upd_same, ← hk]
            rfl
        · rw [ht, List.filter_append, List.map_append, f7]
          simp [hb]
      refine ⟨_, _, rfl, .of hcq, rfl, _, _, rfl, _, _, rfl, rfl, ?_⟩
      show tIfS _ _ _ _ _ _
      simp only [tSeq, tRet, tRetN, tAsg, tIf, tIfS, tNext, tTest, tB, cx_K, cx_w, cx_nK, cx_nw, tOp, tUn, tVar, tC, tCons, tNil, tTup, tLst, tF, tM1, tCB, tAnd, tOr, tNot, tAndV, tOrV, tNotV, tChain, tFld, tPart, tNoPart, tSl, rU, rI0, rI, rEq, rNe, rIxD, rIxL, rIxT, rLen, rIsi, rLenQ, rTupOf, rIn, rSlL, rNewStrs, rAppend, rCat, gUnl, tDrop, wipe, List.foldl_cons, List.foldl_nil, StX.tMakeR, sFld, tLenSetN, rIndex, rSorted, rSortedT, rSetOfT, tPar, tPar3, tBM, rSum, rAll, rAny, tNever, gName, gTup, gCons, gNil, L2.start, List.map_cons, List.map_nil, List.length_cons, List.length_nil, List.cons_append, List.nil_append, List.set_cons_zero, List.set_cons_succ, List.getElem?_cons_zero, List.getElem?_cons_succ, Option.some.injEq, V.int.injEq, V.str.injEq, V.bl.injEq, V.ref.injEq, V.ty.injEq, List.cons.injEq, exists_and_left, exists_and_right, exists_eq_left, exists_eq_left', exists_eq, exists_eq', and_true, true_and, exists_const, List.replicate, Nat.sub_self, Nat.reduceAdd, Nat.reduceSub, if_true, if_false, Bool.false_eq_true, ite_true, ite_false, reduceIte]
      refine ⟨_, _, _, s7 _ _ e0, T.cls.2.1, T.noN.1, _, rfl, ns.over, n, 0, q.2.1, .non, rfl, k1, fun h => absurd (k4.symm.trans h) (by decide), fun H9 s9 => ⟨_, rfl, ?_⟩⟩
      cases ho : ns.over.has n 0 q.2.1 with
      | false => exact iteF (hno (by unfold inB; rw [ho]; rfl) _ s9)
      | true =>
      refine iteT ⟨_, _, _, s9 _ _ (s7 _ _ e0), T.cls.2.1, T.noN.2.1, _, rfl, ns.below, n, q.2.1, q.2.2, .int q.2.1, rfl, k2, fun _ => rfl, fun HA sA => ⟨_, rfl, ?_⟩⟩
      cases hb : ns.below.has n q.2.1 q.2.2 with
      | false => exact iteF (hno (by unfold inB; rw [ho, hb]; rfl) _ (s9.trans sA))
      | true =>
      have hin : inB ns n q.2 = true := by unfold inB; rw [ho, hb]; rfl
      have eA := sA _ _ (s9 _ _ (s7 _ _ e0))
      refine iteT ⟨.inl ⟨rfl, _, .of (sA _ _ (s9 _ _ e7))⟩, _, _, _, eA, T.cls.2.1, T.noN.1, _, rfl, _, rfl, _, rfl, ?_⟩
      rw [lps_down _ k1]
      cases hdo : ns.over.down with
      | true =>
        refine iteT ⟨_, _, _, eA, T.cls.2.1, T.noN.2.1, _, rfl, _, rfl, _, rfl, ?_⟩
        rw [lps_down _ k2]
        cases hdb : ns.below.down with
        | true => exact iteT (leaf hin _ _ HA (by unfold keyOf; rw [hdo, hdb]; rfl) (s9.trans sA))
        | false => exact iteF (leaf hin _ _ HA (by unfold keyOf; rw [hdo, hdb]; rfl) (s9.trans sA))
      | false =>
        refine iteF ⟨_, _, _, eA, T.cls.2.1, T.noN.2.1, _, rfl, _, rfl, _, rfl, ?_⟩
        rw [lps_down _ k2]
        cases hdb : ns.below.down with
        | true => exact iteT (leaf hin _ _ HA (by unfold keyOf; rw [hdo, hdb]; rfl) (s9.trans sA))
        | false => exact iteF (leaf hin _ _ HA (by unfold keyOf; rw [hdo, hdb]; rfl) (s9.trans sA))
    · rw [hPv] at p
      obtain ⟨o, o2, qs, rfl, s7, e7, t7, f7, l7⟩ := p
      show R _ _
      rw [hR]; clear hR R
      simp only [tSeq, tRet, tRetN, tAsg, tIf, tIfS, tNext, tTest, tB, cx_K, cx_w, cx_nK, cx_nw, tOp, tUn, tVar, tC, tCons, tNil, tTup, tLst, tF, tM1, tCB, tAnd, tOr, tNot, tAndV, tOrV, tNotV, tChain, tFld, tPart, tNoPart, tSl, rU, rI0, rI, rEq, rNe, rIxD, rIxL, rIxT, rLen, rIsi, rLenQ, rTupOf, rIn, rSlL, rNewStrs, rAppend, rCat, gUnl, tDrop, wipe, List.foldl_cons, List.foldl_nil, StX.tMakeR, sFld, tLenSetN, rIndex, rSorted, rSortedT, rSetOfT, tPar, tPar3, tBM, rSum, rAll, rAny, tNever, gName, gTup, gCons, gNil, L2.start, List.map_cons, List.map_nil, List.length_cons, List.length_nil, List.cons_append, List.nil_append, List.set_cons_zero, List.set_cons_succ, List.getElem?_cons_zero, List.getElem?_cons_succ, Option.some.injEq, V.int.injEq, V.str.injEq, V.bl.injEq, V.ref.injEq, V.ty.injEq, List.cons.injEq, exists_and_left, exists_and_right, exists_eq_left, exists_eq_left', exists_eq, exists_eq', and_true, true_and, exists_const, List.replicate, Nat.sub_self, Nat.reduceAdd, Nat.reduceSub, if_true, if_false, Bool.false_eq_true, ite_true, ite_false, reduceIte]
      obtain ⟨rs, hrs⟩ : ∃ rs, rs = qs.mergeSort fun a b => keyLe ns a.2 b.2 := ⟨_, rfl⟩
      have hm : (qs.map fun q => (V.ref q.1, PyData.tuple ((keyOf ns q.2).map PyData.int))).mergeSort (PySem.W.dataLe false Prod.snd) = rs.map fun q => (V.ref q.1, PyData.tuple ((keyOf ns q.2).map PyData.int)) := by
        rw [hrs]
        refine (List.map_mergeSort fun a _ b _ => ?_).symm
        have := congrFun (congrFun (dataLe_tups fun q : Addr × Cell => keyOf ns q.2) a) b
        exact this.symm
      have hpm : rs.Perm qs := by rw [hrs]; exact List.mergeSort_perm _ _
      have hcs : rs.map (·.2) = roundsOf ns n (ps.map (·.2)) := by
        have e : rs.map (·.2) = (qs.map (·.2)).mergeSort (keyLe ns) := by
          rw [hrs]
          exact List.map_mergeSort fun a _ b _ => rfl
        rw [e, msort_eq keyLe_trans keyLe_tot keyLe_anti, f7]
        unfold roundsOf
        rw [List.take_of_length_le (by simp)]
      have hlen : rs.length ≤ 8 := by
        rw [hpm.length_eq]
        rw [List.length_map] at l7
        omega
      refine ⟨_, rfl, l, qs.map fun q => (V.ref q.1, PyData.tuple ((keyOf ns q.2).map PyData.int)), rfl, ?_, ?_, ?_, ?_, ?_, fun p hp => ?_⟩
      · rw [List.map_map]
        exact .of e7
      · intro b hb
        obtain ⟨q, hq, rfl⟩ := List.mem_map.mp hb
        exact .tup (.of (t7 q hq)) (dpAll_ints _)
      · intro b hb c hc
        obtain ⟨q, hq, rfl⟩ := List.mem_map.mp hb
        obtain ⟨r, hr, rfl⟩ := List.mem_map.mp hc
        exact PySem.W.alike_ints _ _
      · intro b hb
        obtain ⟨q, hq, rfl⟩ := List.mem_map.mp hb
        exact ⟨_, _, rfl⟩
      · intro b hb
        obtain ⟨q, hq, rfl⟩ := List.mem_map.mp hb
        show PyData.depth (.tuple ((keyOf ns q.2).map PyData.int)) ≤ 8
        simp [PyData.depth, PySem.W.depth_ints]
      · rw [hm, List.map_map]
        have sp2 : Same H7 (upd H7 p (.lst (rs.map ((fun b : V × PyData => b.1) ∘ fun q => (V.ref q.1, PyData.tuple ((keyOf ns q.2).map PyData.int)))))) := Same.upd (Same.refl H7) hp
        have ep : (upd H7 p (.lst (rs.map ((fun b : V × PyData => b.1) ∘ fun q => (V.ref q.1, PyData.tuple ((keyOf ns q.2).map PyData.int)))))) p = some (.lst (rs.map fun q => V.ref q.1)) := upd_same
        refine ⟨p, rfl, ⟨_, .of ep⟩, fun D hD => lcr (walk_list (xs := rs.map fun q => V.ref q.1)) (by rw [List.length_map, sizeLine_eq]; omega) hD (fun a y H => ∃ t c, y = V.ref t ∧ (rs.map (·.2))[a]? = some c ∧ CellAt H t c) ?_ (fun H sa => sa.seq (.of ep)) (fun a x H5 H' Q5 ha sa5 y hq => ?_) (fun H5 ys sa5 e5 hys hrel => ?_)⟩
        · rintro a y H H' st ⟨t, c, h1, h2, h3⟩
          exact ⟨t, c, h1, h2, st _ _ h3⟩
        · obtain ⟨rfl, hx⟩ := y
          rw [List.getElem?_map] at hx
          obtain ⟨q, hq2, rfl⟩ := Option.map_eq_some_iff.mp hx
          have tq := sa5 _ _ (sp2 _ _ (t7 q (hpm.mem_iff.mp (List.mem_of_getElem? hq2))))
          refine ⟨_, _, rfl, .of tq, rfl, _, _, rfl, _, _, rfl, _, _, rfl, _, _, rfl, rfl, rfl, ?_⟩
          simp only [tSeq, tRet, tRetN, tAsg, tIf, tIfS, tNext, tTest, tB, cx_K, cx_w, cx_nK, cx_nw, tOp, tUn, tVar, tC, tCons, tNil, tTup, tLst, tF, tM1, tCB, tAnd, tOr, tNot, tAndV, tOrV, tNotV, tChain, tFld, tPart, tNoPart, tSl, rU, rI0, rI, rEq, rNe, rIxD, rIxL, rIxT, rLen, rIsi, rLenQ, rTupOf, rIn, rSlL, rNewStrs, rAppend, rCat, gUnl, tDrop, wipe, List.foldl_cons, List.foldl_nil, StX.tMakeR, sFld, tLenSetN, rIndex, rSorted, rSortedT, rSetOfT, tPar, tPar3, tBM, rSum, rAll, rAny, tNever, gName, gTup, gCons, gNil, L2.start, List.map_cons, List.map_nil, List.length_cons, List.length_nil, List.cons_append, List.nil_append, List.set_cons_zero, List.set_cons_succ, List.getElem?_cons_zero, List.getElem?_cons_succ, Option.some.injEq, V.int.injEq, V.str.injEq, V.bl.injEq, V.ref.injEq, V.ty.injEq, List.cons.injEq, exists_and_left, exists_and_right, exists_eq_left, exists_eq_left', exists_eq, exists_eq', and_true, true_and, exists_const, List.replicate, Nat.sub_self, Nat.reduceAdd, Nat.reduceSub, if_true, if_false, Bool.false_eq_true, ite_true, ite_false, reduceIte]
          refine ⟨by rw [sizeLine_eq]; decide, fun t ht => hq _ _ (Same.upd (Same.refl _) ht) ⟨t, q.2, rfl, ?_, upd_same⟩⟩
          rw [List.getElem?_map, hq2]
          rfl
        · obtain ⟨ts, rfl, htl, hts⟩ := refs_of (fun a t => ∃ c, (rs.map (·.2))[a]? = some c ∧ CellAt H5 t c) fun a y e => by
            obtain ⟨t, c, h1, h2, h3⟩ := hrel a y e
            exact ⟨t, h1, c, h2, h3⟩
          rw [List.length_map, List.length_map] at hys
          obtain ⟨z1, z2, z3⟩ := cells_zip (ts := ts) (cs := rs.map (·.2)) (by rw [List.length_map]; exact hys) hts
          refine k _ D (ts.zip (rs.map (·.2))) (s7.trans (sp2.trans sa5)) ⟨by rw [z1]; exact e5, z3⟩ ?_
          rw [z2, hcs]
end
end Sq

set_option Elab.async false
set_option linter.all false
set_option maxRecDepth 100000
set_option maxHeartbeats 4000000
/-! ## Walks: where a program falls -/
namespace Sq
open PySem PySem.Spec PyProof.Rows L2 He
def bad (ns : Ns) (m i : Int) : Bool := decide (ns.below.first m i < ns.below.behind m i) && (decide (i < 0) || (decide (i ≥ m) || (decide (ns.below.first m i < 0) || decide (ns.below.behind m i > m))))
def nestFalls (ns : Ns) (m : Int) : Bool := (List.range (ns.over.behind m 0 - ns.over.first m 0).toNat).any fun k => bad ns m (ns.over.first m 0 + k)
def fallsAt (pr : Pr) (n : Int) : Bool := pr.any fun ns => nestFalls ns (if n > 7 then 6 + n.fmod 2 else n)
theorem if_max (a b : Int) : (if a > b then a else b) = max b a := by
  by_cases h : a > b
  · rw [if_pos h]; omega
  · rw [if_neg h]; omega
theorem lps_outer : ∀ l ∈ lps, l.outer = true → ∀ m : Int, 0 ≤ m → m ≤ 11 → 0 ≤ l.first m 0 ∧ l.first m 0 ≤ 12 ∧ 0 ≤ l.behind m 0 ∧ l.behind m 0 ≤ 12 := by
  intro l hl ho m h0 h1
  unfold lps at hl
  simp only [List.mem_cons, List.not_mem_nil, or_false] at hl
  rcases hl with rfl | rfl | rfl | rfl | rfl | rfl | rfl | rfl | rfl | rfl <;> first | exact absurd ho (by decide) | (simp only [Lp.first, Lp.behind, Bd.val, if_max]; omega)
/-- a program that stands at a -/
def ProgAt (K : PySem.W.Frag) (H : Hp) (a : Addr) (ps : List (Addr × Ns)) : Prop := ∃ dx t, H a = some (.ins (ga K "Program") dx [("parts", .ref t)]) ∧ H t = some (.tup (ps.map fun p => V.ref p.1)) ∧ (∀ p ∈ ps, NestAt K H p.1 p.2)
theorem ProgAt.same {K : PySem.W.Frag} {H H' : Hp} {a : Addr} {ps : List (Addr × Ns)} (h : ProgAt K H a ps) (s : Same H H') : ProgAt K H' a ps := by
  obtain ⟨dx, t, e, e1, e2⟩ := h
  exact ⟨dx, t, s _ _ e, s _ _ e1, fun p hp => (e2 p hp).same s⟩
section
variable {P : Program} {w : World} {K : PySem.W.Frag} {mg : Str → Option Value} {base : Heap}
def spFallsAt (K : PySem.W.Frag) : Sp := fun vs H Q _ => ∃ (pa : Addr) (n : Int) (ps : List (Addr × Ns)), vs = [.ref pa, .int n] ∧ ProgAt K H pa ps ∧ (∀ p ∈ ps, NsOk p.2) ∧ 1 ≤ n ∧ n ≤ 11 ∧ ∀ H', Same H H' → Q (.bl (fallsAt (ps.map (·.2)) n)) H'
abbrev N_falls_at : List Str := ["program", "size", "nest", "low", "high", "down", "i", "first", "behind", "turned"]
theorem sc_falls_at : FnScope N_falls_at ["program", "size"] (defScope (top 65)) := ⟨rfl, rfl, rfl, by decide +kernel, rfl, by decide +kernel, by decide +kernel⟩
theorem F_falls_at (T : TX w K mg) : Fn P w K mg base 3 "falls_at" (spFallsAt K) := by
  obtain ⟨fd, F⟩ := T.fi 23
  have nd := sc_falls_at.nd
  have F_loop_range := F_loop_range (P := P) (base := base) T
  refine ⟨_, raw0 F sc_falls_at (fun vs H Q E h => ?_) (fun _ _ _ _ _ _ us hl => match us, hl with | [_, _], _ => rfl) (fun cdv A outer s H vs Q E hr h => ?_), T.g "falls_at", F.kp⟩
  · obtain ⟨pa, n, ps, rfl, hp, ok, hn1, hn2, k⟩ := h
    rfl
  · obtain ⟨pa, n, ps, rfl, hp, ok, hn1, hn2, k⟩ := h
    refine ⟨_, (pss_cons (ps_if (pt_cmpR op_gt (pv 1) (pe_int) (nomark _)) (pss_one (ps_set (i := 1) nd rfl (Or.inl rfl) (pe_op op_add (pe_int) (pe_op op_modN (pe_callTy call_int1 (by rfl) (T.z "int") (by decide +kernel) (pa_cons (pv 1) pa_nil)) (pe_int))))) pss_nil)
    (pss_cons (ps_for PassesOwn.never rfl (pi_tup (pe_fld (pv 0) rfl)) (pg_name (i := 2) nd rfl (Or.inl rfl)) (pss_cons (ps_asg (pe_f F_loop_range hr (pa_cons (pe_fld (pv 2) rfl) (pa_cons (pv 1) (pa_cons (pe_non) pa_nil)))) (pg_tup (n := 3) rfl (pgs_cons (pg_name (i := 3) nd rfl (Or.inl rfl)) (pgs_cons (pg_name (i := 4) nd rfl (Or.inl rfl)) (pgs_cons (pg_name (i := 5) nd rfl (Or.inl rfl)) pgs_nil)))))
    (pss_one (ps_for PassesOwn.never rfl (pi_range2 (by rfl) (T.z "range") (pa_cons (pv 3) (pa_cons (pv 4) pa_nil))) (pg_name (i := 6) nd rfl (Or.inl rfl)) (pss_cons (ps_asg (pe_f F_loop_range hr (pa_cons (pe_fld (pv 2) rfl) (pa_cons (pv 1) (pa_cons (pv 6) pa_nil)))) (pg_tup (n := 3) rfl (pgs_cons (pg_name (i := 7) nd rfl (Or.inl rfl)) (pgs_cons (pg_name (i := 8) nd rfl (Or.inl rfl)) (pgs_cons (pg_name (i := 9) nd rfl (Or.inl rfl)) pgs_nil)))))
    (pss_one (ps_if (PW.pt (pw_and (pt_cmpR op_lt (pv 7) (pv 8) (nomark _)) (pw_and1 (PW.pt (pw_or (pt_cmpR op_lt (pv 6) (pe_int) (nomark _)) (pw_or (pt_cmpR op_ge (pv 6) (pv 1) (nomark _)) (pw_or (pt_cmpR op_lt (pv 7) (pe_int) (nomark _)) (pw_or1 (pt_cmpR op_gt (pv 8) (pv 1) (nomark _)))))))))) (pss_one (ps_ret (pe_bl))) pss_nil)))))))
    (pss_one (ps_ret (pe_bl))))), ?_⟩
    obtain ⟨dx, t, e0, e1, e2⟩ := hp
    refine seqG fun R hR => ?_
    have fm : n.fmod 2 = n % 2 := Int.fmod_eq_emod_of_nonneg n (by decide)
    have main : R [some (V.ref pa), some (V.int (if n > 7 then 6 + n.fmod 2 else n)), none, none, none, none, none, none, none, none] H := by
      have hm : 0 ≤ (if n > 7 then 6 + n.fmod 2 else n) ∧ (if n > 7 then 6 + n.fmod 2 else n) ≤ 11 := by rw [fm]; split <;> omega
      have hf : fallsAt (ps.map (·.2)) n = (ps.map (·.2)).any fun ns => nestFalls ns (if n > 7 then 6 + n.fmod 2 else n) := rfl
      rw [hf] at k
      clear hf
      generalize (if n > 7 then 6 + n.fmod 2 else n) = m at hm k ⊢
      rw [hR]; clear hR R
      refine seqG fun R hR => ?_
      obtain ⟨Pv, hPv⟩ : ∃ Pv : Nat → L2.St → Hp → Prop, Pv = fun c σ H7 => ∃ (o2 o3 o4 o5 o6 o7 o8 o9 : Option V), σ = [some (V.ref pa), some (V.int m), o2, o3, o4, o5, o6, o7, o8, o9] ∧ Same H H7 ∧ ((ps.map (·.2)).take c).any (fun ns => nestFalls ns m) = false := ⟨_, rfl⟩
      refine ⟨_, rfl, pa, _, dx, _, _, rfl, e0, T.cls.2.2.1, T.noP, rfl, t, rfl, ⟨_, .of e1⟩, for_it (walk_tup (xs := ps.map fun p => V.ref p.1)) Pv (by rw [hPv]; exact ⟨_, _, _, _, _, _, _, _, rfl, Same.refl H, rfl⟩) (fun c σ H7 _ p => ?_) (fun c x σ7 H7 H8 hc7 p y => ?_) (fun σ7 H7 p => ?_)⟩
      · rw [hPv] at p
        obtain ⟨_, _, _, _, _, _, _, _, _, s7, _⟩ := p
        exact .of (s7 _ _ e1)
      · rw [hPv] at p
        obtain ⟨_, _, _, _, _, _, _, _, rfl, s7, f7⟩ := p
        obtain ⟨rfl, hx⟩ := y
        rw [List.getElem?_map] at hx
        obtain ⟨q, hq, rfl⟩ := Option.map_eq_some_iff.mp hx
        have hqm := List.mem_of_getElem? hq
        obtain ⟨k1, k2, k3, k4⟩ := ok q hqm
        have hnq := (e2 q hqm).same s7
        obtain ⟨dq, te, pq, da, n0, n1, n2⟩ := hnq
        have ht : (ps.map (·.2)).take (c + 1) = (ps.map (·.2)).take c ++ [q.2] := by rw [List.take_succ, List.getElem?_map, hq]; rfl
        refine seqG fun R2 hR2 => ?_
        simp only [tSeq, tRet, tRetN, tAsg, tIf, tIfS, tNext, tTest, tB, cx_K, cx_w, cx_nK, cx_nw, tOp, tUn, tVar, tC, tCons, tNil, tTup, tLst, tF, tM1, tCB, tAnd, tOr, tNot, tAndV, tOrV, tNotV, tChain, tFld, tPart, tNoPart, tSl, rU, rI0, rI, rEq, rNe, rIxD, rIxL, rIxT, rLen, rIsi, rLenQ, rTupOf, rIn, rSlL, rNewStrs, rAppend, rCat, gUnl, tDrop, wipe, List.foldl_cons, List.foldl_nil, StX.tMakeR, sFld, tLenSetN, rIndex, rSorted, rSortedT, rSetOfT, tPar, tPar3, tBM, rSum, rAll, rAny, tNever, gName, gTup, gCons, gNil, L2.start, List.map_cons, List.map_nil, List.length_cons, List.length_nil, List.cons_append, List.nil_append, List.set_cons_zero, List.set_cons_succ, List.getElem?_cons_zero, List.getElem?_cons_succ, Option.some.injEq, V.int.injEq, V.str.injEq, V.bl.injEq, V.ref.injEq, V.ty.injEq, List.cons.injEq, exists_and_left, exists_and_right, exists_eq_left, exists_eq_left', exists_eq, exists_eq', and_true, true_and, exists_const, List.replicate, Nat.sub_self, Nat.reduceAdd, Nat.reduceSub, if_true, if_false, Bool.false_eq_true, ite_true, ite_false, reduceIte]
        refine ⟨_, _, _, n0, T.cls.2.1, T.noN.1, _, rfl, q.2.over, m, 0, .non, rfl, k1, fun h => absurd (k4.symm.trans h) (by decide), fun H9 p9 s9 e9 => ⟨_, rfl, _, .of e9, rfl, _, _, rfl, _, _, rfl, _, _, rfl, rfl, ?_⟩⟩
        rw [hR2]; clear hR2 R2
        obtain ⟨b1, b2, b3, b4⟩ := lps_outer _ k1 k4 m hm.1 hm.2
        have htrue : (∃ j < (q.2.over.behind m 0 - q.2.over.first m 0).toNat, bad q.2 m (q.2.over.first m 0 + (j : Nat)) = true) → (ps.map (·.2)).any (fun ns => nestFalls ns m) = true := fun ⟨j, hj, hb⟩ =>
          List.any_eq_true.mpr ⟨q.2, List.mem_map_of_mem hqm, List.any_eq_true.mpr ⟨j, List.mem_range.mpr hj, hb⟩⟩
        obtain ⟨Pw, hPw⟩ : ∃ Pw : Nat → L2.St → Hp → Prop, Pw = fun j σ HA => ∃ (o6 o7 o8 o9 : Option V), σ = [some (V.ref pa), some (V.int m), some (V.ref q.1), some (V.int (q.2.over.first m 0)), some (V.int (q.2.over.behind m 0)), some (V.bl q.2.over.down), o6, o7, o8, o9] ∧ Same H9 HA ∧ (List.range j).any (fun j => bad q.2 m (q.2.over.first m 0 + (j : Nat))) = false := ⟨_, rfl⟩
        refine ⟨_, rfl, _, rfl, q.2.over.first m 0, q.2.over.behind m 0, rfl, ⟨by omega, by omega, by omega, by omega⟩, for_it walk_range Pw (by rw [hPw]; exact ⟨_, _, _, _, rfl, Same.refl _, rfl⟩) (fun _ _ _ _ _ => trivial) (fun j x σA HA HB hj pA yA => ?_) (fun σA HA pA => ?_)⟩
        · rw [hPw] at pA
          obtain ⟨_, _, _, _, rfl, sA, fA⟩ := pA
          obtain ⟨rfl, rfl⟩ := yA
          have nA := sA _ _ (s9 _ _ n0)
          have hnx : bad q.2 m (q.2.over.first m 0 + (j : Nat)) = false → ∀ o6 o7 o8 o9 HC, Same HB HC → Pw (j + 1) [some (V.ref pa), some (V.int m), some (V.ref q.1), some (V.int (q.2.over.first m 0)), some (V.int (q.2.over.behind m 0)), some (V.bl q.2.over.down), o6, o7, o8, o9] HC := fun hb o6 o7 o8 o9 HC sC => by
            rw [hPw]
            refine ⟨_, _, _, _, rfl, sA.trans sC, ?_⟩
            rw [List.range_succ, List.any_append, fA]
            simp [hb]
          refine seqG fun R3 hR3 => ?_
          simp only [tSeq, tRet, tRetN, tAsg, tIf, tIfS, tNext, tTest, tB, cx_K, cx_w, cx_nK, cx_nw, tOp, tUn, tVar, tC, tCons, tNil, tTup, tLst, tF, tM1, tCB, tAnd, tOr, tNot, tAndV, tOrV, tNotV, tChain, tFld, tPart, tNoPart, tSl, rU, rI0, rI, rEq, rNe, rIxD, rIxL, rIxT, rLen, rIsi, rLenQ, rTupOf, rIn, rSlL, rNewStrs, rAppend, rCat, gUnl, tDrop, wipe, List.foldl_cons, List.foldl_nil, StX.tMakeR, sFld, tLenSetN, rIndex, rSorted, rSortedT, rSetOfT, tPar, tPar3, tBM, rSum, rAll, rAny, tNever, gName, gTup, gCons, gNil, L2.start, List.map_cons, List.map_nil, List.length_cons, List.length_nil, List.cons_append, List.nil_append, List.set_cons_zero, List.set_cons_succ, List.getElem?_cons_zero, List.getElem?_cons_succ, Option.some.injEq, V.int.injEq, V.str.injEq, V.bl.injEq, V.ref.injEq, V.ty.injEq, List.cons.injEq, exists_and_left, exists_and_right, exists_eq_left, exists_eq_left', exists_eq, exists_eq', and_true, true_and, exists_const, List.replicate, Nat.sub_self, Nat.reduceAdd, Nat.reduceSub, if_true, if_false, Bool.false_eq_true, ite_true, ite_false, reduceIte]
          refine ⟨_, _, _, nA, T.cls.2.1, T.noN.2.1, _, rfl, q.2.below, m, q.2.over.first m 0 + (j : Nat), .int (q.2.over.first m 0 + (j : Nat)), rfl, k2, fun _ => rfl, fun HC pC sC eC => ⟨_, rfl, _, .of eC, rfl, _, _, rfl, _, _, rfl, _, _, rfl, rfl, ?_⟩⟩
          rw [hR3]; clear hR3 R3
          have hq : bad q.2 m (q.2.over.first m 0 + (j : Nat)) = true → Q (V.bl true) HC := fun hb => by
            have := k HC (s7.trans (s9.trans (sA.trans sC)))
            rw [htrue ⟨j, hj, hb⟩] at this
            exact this
          have hn := fun hb => hnx hb (some (V.int (q.2.over.first m 0 + (j : Nat)))) (some (V.int (q.2.below.first m (q.2.over.first m 0 + (j : Nat))))) (some (V.int (q.2.below.behind m (q.2.over.first m 0 + (j : Nat))))) (some (V.bl q.2.below.down)) HC sC
          simp only [tSeq, tRet, tRetN, tAsg, tIf, tIfS, tNext, tTest, tB, cx_K, cx_w, cx_nK, cx_nw, tOp, tUn, tVar, tC, tCons, tNil, tTup, tLst, tF, tM1, tCB, tAnd, tOr, tNot, tAndV, tOrV, tNotV, tChain, tFld, tPart, tNoPart, tSl, rU, rI0, rI, rEq, rNe, rIxD, rIxL, rIxT, rLen, rIsi, rLenQ, rTupOf, rIn, rSlL, rNewStrs, rAppend, rCat, gUnl, tDrop, wipe, List.foldl_cons, List.foldl_nil, StX.tMakeR, sFld, tLenSetN, rIndex, rSorted, rSortedT, rSetOfT, tPar, tPar3, tBM, rSum, rAll, rAny, tNever, gName, gTup, gCons, gNil, L2.start, List.map_cons, List.map_nil, List.length_cons, List.length_nil, List.cons_append, List.nil_append, List.set_cons_zero, List.set_cons_succ, List.getElem?_cons_zero, List.getElem?_cons_succ, Option.some.injEq, V.int.injEq, V.str.injEq, V.bl.injEq, V.ref.injEq, V.ty.injEq, List.cons.injEq, exists_and_left, exists_and_right, exists_eq_left, exists_eq_left', exists_eq, exists_eq', and_true, true_and, exists_const, List.replicate, Nat.sub_self, Nat.reduceAdd, Nat.reduceSub, if_true, if_false, Bool.false_eq_true, ite_true, ite_false, reduceIte]
          unfold bad at hq hn
          generalize q.2.over.first m 0 + (j : Nat) = i at hq hn ⊢
          change (_ && (_ || (decide (m ≤ i) || (_ || decide (m < q.2.below.behind m i))))) = true → _ at hq
          change (_ && (_ || (decide (m ≤ i) || (_ || decide (m < q.2.below.behind m i))))) = false → _ at hn
          generalize decide (q.2.below.first m i < q.2.below.behind m i) = c1 at hq hn ⊢
          generalize decide (i < 0) = c2 at hq hn ⊢
          generalize decide (m ≤ i) = c3 at hq hn ⊢
          generalize decide (q.2.below.first m i < 0) = c4 at hq hn ⊢
          generalize decide (m < q.2.below.behind m i) = c5 at hq hn ⊢
          cases c1 <;> cases c2 <;> cases c3 <;> cases c4 <;> cases c5 <;> first | exact hq rfl | exact hn rfl
        · rw [hPw] at pA
          obtain ⟨_, _, _, _, rfl, sA, fA⟩ := pA
          show Pv (c + 1) _ _
          rw [hPv]
          refine ⟨_, _, _, _, _, _, _, _, rfl, s7.trans (s9.trans sA), ?_⟩
          rw [ht, List.any_append, f7]
          simp only [List.any_cons, List.any_nil, Bool.or_false, Bool.false_or]
          exact fA
      · rw [hPv] at p
        obtain ⟨_, _, _, _, _, _, _, _, rfl, s7, f7⟩ := p
        show R _ _
        rw [hR]; clear hR R
        simp only [tSeq, tRet, tRetN, tAsg, tIf, tIfS, tNext, tTest, tB, cx_K, cx_w, cx_nK, cx_nw, tOp, tUn, tVar, tC, tCons, tNil, tTup, tLst, tF, tM1, tCB, tAnd, tOr, tNot, tAndV, tOrV, tNotV, tChain, tFld, tPart, tNoPart, tSl, rU, rI0, rI, rEq, rNe, rIxD, rIxL, rIxT, rLen, rIsi, rLenQ, rTupOf, rIn, rSlL, rNewStrs, rAppend, rCat, gUnl, tDrop, wipe, List.foldl_cons, List.foldl_nil, StX.tMakeR, sFld, tLenSetN, rIndex, rSorted, rSortedT, rSetOfT, tPar, tPar3, tBM, rSum, rAll, rAny, tNever, gName, gTup, gCons, gNil, L2.start, List.map_cons, List.map_nil, List.length_cons, List.length_nil, List.cons_append, List.nil_append, List.set_cons_zero, List.set_cons_succ, List.getElem?_cons_zero, List.getElem?_cons_succ, Option.some.injEq, V.int.injEq, V.str.injEq, V.bl.injEq, V.ref.injEq, V.ty.injEq, List.cons.injEq, exists_and_left, exists_and_right, exists_eq_left, exists_eq_left', exists_eq, exists_eq', and_true, true_and, exists_const, List.replicate, Nat.sub_self, Nat.reduceAdd, Nat.reduceSub, if_true, if_false, Bool.false_eq_true, ite_true, ite_false, reduceIte]
        have := k H7 s7
        rw [List.take_of_length_le (by simp)] at f7
        rw [f7] at this
        exact this
    simp only [tSeq, tRet, tRetN, tAsg, tIf, tIfS, tNext, tTest, tB, cx_K, cx_w, cx_nK, cx_nw, tOp, tUn, tVar, tC, tCons, tNil, tTup, tLst, tF, tM1, tCB, tAnd, tOr, tNot, tAndV, tOrV, tNotV, tChain, tFld, tPart, tNoPart, tSl, rU, rI0, rI, rEq, rNe, rIxD, rIxL, rIxT, rLen, rIsi, rLenQ, rTupOf, rIn, rSlL, rNewStrs, rAppend, rCat, gUnl, tDrop, wipe, List.foldl_cons, List.foldl_nil, StX.tMakeR, sFld, tLenSetN, rIndex, rSorted, rSortedT, rSetOfT, tPar, tPar3, tBM, rSum, rAll, rAny, tNever, gName, gTup, gCons, gNil, L2.start, List.map_cons, List.map_nil, List.length_cons, List.length_nil, List.cons_append, List.nil_append, List.set_cons_zero, List.set_cons_succ, List.getElem?_cons_zero, List.getElem?_cons_succ, Option.some.injEq, V.int.injEq, V.str.injEq, V.bl.injEq, V.ref.injEq, V.ty.injEq, List.cons.injEq, exists_and_left, exists_and_right, exists_eq_left, exists_eq_left', exists_eq, exists_eq', and_true, true_and, exists_const, List.replicate, Nat.sub_self, Nat.reduceAdd, Nat.reduceSub, if_true, if_false, Bool.false_eq_true, ite_true, ite_false, reduceIte]
    by_cases h : 7 < n
    · rw [if_pos (show n > 7 from h)] at main
      rw [decide_eq_true h]
      exact iteT (.inl ⟨by decide, main⟩)
    · rw [if_neg (show ¬ n > 7 from h)] at main
      rw [decide_eq_false h]
      exact iteF main
end
end Sq

set_option Elab.async false
set_option linter.all false
set_option maxRecDepth 100000
set_option maxHeartbeats 4000000
/-! ## Walks: what a program does to the images of a cell -/
namespace Sq
open PySem PySem.Spec PyProof.Rows L2 He
theorem fm_step {α β : Type} {f : β → α → Option β} {l : List α} {a r : β} (h : l.foldlM f a = some r) {c : Nat} {x : α} (hx : l[c]? = some x) {b : β} (hb : (l.take c).foldlM f a = some b) : ∃ b', f b x = some b' ∧ (l.take (c + 1)).foldlM f a = some b' := by
  have hlt : c < l.length := (List.getElem?_eq_some_iff.mp hx).1
  have e : l = l.take c ++ x :: l.drop (c + 1) := by
    rw [← (List.getElem?_eq_some_iff.mp hx).2, List.getElem_cons_drop, List.take_append_drop]
  have ht : l.take (c + 1) = l.take c ++ [x] := by rw [List.take_succ, hx]; rfl
  rw [e, List.foldlM_append, hb] at h
  have h2 : (f b x >>= fun b' => (l.drop (c + 1)).foldlM f b') = some r := by simpa using h
  cases q : f b x with
  | none => rw [q] at h2; cases h2
  | some b' =>
    refine ⟨b', rfl, ?_⟩
    rw [ht, List.foldlM_append, hb]
    show ([x].foldlM f b : Option β) = some b'
    simp [q]
theorem doTurn_keys {cells : List Cell} {es : List Int} {ct : Ct} (h : ∀ c ∈ cells, c ∈ ct.map (·.1)) : ∀ k, k < cells.length → (doTurn cells es ct k).map (·.1) = ct.map (·.1)
  | 0, _ => rfl
  | k + 1, hk => by
    have ih := doTurn_keys (es := es) h k (by omega)
    show (ctPut (doTurn cells es ct k) (cells.getD (k + 1) (0, 0)) (es.getD k 0)).map (·.1) = _
    have e : cells.getD (k + 1) (0, 0) = cells[k + 1] := by rw [List.getD_eq_getElem?_getD, List.getElem?_eq_getElem hk]; rfl
    rw [ctPut_keys (by rw [ih, e]; exact h _ (List.getElem_mem hk)), ih]
theorem doDeed_keys {d : Dd} {n i j : Int} {ct ct' : Ct} (hd : d ∈ dds) (h : doDeed d n i j ct = some ct') : ct'.map (·.1) = ct.map (·.1) := by
  unfold doDeed at h
  split at h
  · cases h; rfl
  · obtain ⟨es, hes, rfl⟩ := Option.map_eq_some_iff.mp h
    obtain ⟨h1, h2⟩ := mapM_some hes
    have hk : ∀ c ∈ d.spots.map (fun p => Pl.cell p n i j), c ∈ ct.map (·.1) := fun c hc => by
      obtain ⟨a, ha, e⟩ := List.getElem_of_mem hc
      obtain ⟨v, _, hv⟩ := h2 a c (by rw [List.getElem?_eq_getElem ha, e])
      exact ctGet_mem hv
    have hl := (dds_spots d hd).1
    have hlen : (d.spots.map fun p => Pl.cell p n i j).length = d.spots.length := by rw [List.length_map]
    have t := doTurn_keys (es := es) hk ((d.spots.map fun p => Pl.cell p n i j).length - 1) (by omega)
    have e : (d.spots.map fun p => Pl.cell p n i j).getD 0 (0, 0) = (d.spots.map fun p => Pl.cell p n i j)[0]'(by omega) := by rw [List.getD_eq_getElem?_getD, List.getElem?_eq_getElem (by omega)]; rfl
    rw [ctPut_keys (by rw [t, e]; exact hk _ (List.getElem_mem _)), t]
def nestStep (n : Int) (cs : List Cell) (ct : Ct) (ns : Ns) : Option Ct := (roundsOf ns n cs).foldlM (fun ct c => doDeed ns.deed n c.1 c.2 ct) ct
def effCt (pr : Pr) (n : Int) (cs : List Cell) : Option Ct := pr.foldlM (nestStep n cs) (cs.zip (startsOf cs.length))
def effTab (pr : Pr) (n : Int) (cs : List Cell) : Option (List Int) := (effCt pr n cs).bind fun ct => cs.mapM (ctGet ct)
theorem rounds_keys {d : Dd} {n : Int} (hd : d ∈ dds) : ∀ {rs : List Cell} {ct ct' : Ct}, rs.foldlM (fun ct c => doDeed d n c.1 c.2 ct) ct = some ct' → ct'.map (·.1) = ct.map (·.1)
  | [], _, _, h => by cases h; rfl
  | c :: rs, ct, ct', h => by
    rw [List.foldlM_cons] at h
    cases q : doDeed d n c.1 c.2 ct with
    | none => rw [q] at h; cases h
    | some b =>
      rw [q] at h
      rw [rounds_keys hd (rs := rs) h, doDeed_keys hd q]
theorem SameX.seqL {K : PySem.W.Frag} {H H' : Hp} {d a : Addr} {kvs : List (List Key × V)} {xs : List V} (sx : SameX d H H') (hd : H d = some (.dT kvs)) (h : SqL K H a xs) : SqL K H' a xs := by
  rcases h with (h | ⟨o, h⟩) | h
  · exact .inl (.inl (sx _ _ (fun e => by rw [e, hd] at h; cases h) h))
  · exact .inl (.inr ⟨o, sx _ _ (fun e => by rw [e, hd] at h; cases h) h⟩)
  · exact .inr h
theorem SameX.deed {K : PySem.W.Frag} {H H' : Hp} {c a : Addr} {kvs : List (List Key × V)} {d : Dd} (sx : SameX c H H') (hd : H c = some (.dT kvs)) (h : DeedAt K H a d) : DeedAt K H' a d := by
  obtain ⟨dx, b, g, e, e1, e2⟩ := h
  exact ⟨dx, b, g, sx _ _ (fun q => by rw [q, hd] at e; cases e) e, sx.seqL hd e1, sx.seqL hd e2⟩
theorem range_getD (ts : List Int) : (List.range ts.length).map (fun a => V.int (ts.getD a 0)) = ts.map V.int := by
  refine List.ext_getElem? fun a => ?_
  by_cases h : a < ts.length
  · rw [List.getElem?_map, List.getElem?_range h, List.getElem?_map, List.getElem?_eq_getElem h]
    show some (V.int (ts.getD a 0)) = _
    rw [List.getD_eq_getElem?_getD, List.getElem?_eq_getElem h]
    rfl
  · rw [List.getElem?_eq_none (by simp; omega), List.getElem?_eq_none (by simp; omega)]
section
variable {P : Program} {w : World} {K : PySem.W.Frag} {mg : Str → Option Value} {base : Heap}
def spEffectOn (K : PySem.W.Frag) : Sp := fun vs H Q _ => ∃ (pa ca : Addr) (n i j : Int) (ps : List (Addr × Ns)), vs = [.ref pa, .int n, .ref ca] ∧ ProgAt K H pa ps ∧ (∀ p ∈ ps, NsOk p.2) ∧ CellAt H ca (i, j) ∧ 0 ≤ i ∧ i < n ∧ 0 ≤ j ∧ j < n ∧
  (∀ cs, Imgs n i j cs → ∃ ts, effTab (ps.map (·.2)) n cs = some ts) ∧ ∀ H' t cs ts, Same H H' → H t = none → Imgs n i j cs → effTab (ps.map (·.2)) n cs = some ts → H' t = some (.tup ((movesOf ts).map V.int)) → Q (.ref t) H'
abbrev N_effect_on : List Str := ["program", "size", "cell", "cells", "content", "nest", "i", "j", "deed", "image"]
theorem sc_effect_on : FnScope N_effect_on ["program", "size", "cell"] (defScope (top 71)) := ⟨rfl, rfl, rfl, by decide +kernel, rfl, by decide +kernel, by decide +kernel⟩
theorem F_effect_on (T : TX w K mg) : Fn P w K mg base 5 "effect_on" (spEffectOn K) := by
  obtain ⟨fd, F⟩ := T.fi 27
  have nd := sc_effect_on.nd
  have F_images_of := F_images_of (P := P) (base := base) T
  have F_starts := F_starts (P := P) (base := base) T
  have F_orbit_rounds := F_orbit_rounds (P := P) (base := base) T
  have F_do_deed := F_do_deed (P := P) (base := base) T
  have F_moves_from := F_moves_from (P := P) (base := base) T
  refine ⟨_, raw0 F sc_effect_on (fun vs H Q E h => ?_) (fun _ _ _ _ _ _ us hl => match us, hl with | [_, _, _], _ => rfl) (fun cdv A outer s H vs Q E hr h => ?_), T.g "effect_on", F.kp⟩
  · obtain ⟨pa, ca, n, i, j, ps, rfl, hp, ok, hc, h1, h2, h3, h4, hef, k⟩ := h
    rfl
  · obtain ⟨pa, ca, n, i, j, ps, rfl, hp, ok, hc, h1, h2, h3, h4, hef, k⟩ := h
    refine ⟨_, (pss_cons (ps_set (i := 3) nd rfl (Or.inl rfl) (pe_f F_images_of hr (pa_cons (pv 1) (pa_cons (pv 2) pa_nil))))
    (pss_cons (ps_set (i := 4) nd rfl (Or.inr rfl) (pe_dictZip (by rfl) hr.units (by rfl) (T.z "dict") (by rfl) (T.z "zip") (pa_cons (pv 3) (pa_cons (pe_f F_starts hr (pa_cons (pe_callB call_len_seq (by rfl) (T.z "len") (by decide +kernel) (pa_cons (pv 3) pa_nil)) pa_nil)) pa_nil))))
    (pss_cons (ps_for PassesOwn.never rfl (pi_tup (pe_fld (pv 0) rfl)) (pg_name (i := 5) nd rfl (Or.inl rfl)) (pss_one (ps_for PassesOwn.never rfl (pi_list (pe_f F_orbit_rounds hr (pa_cons (pv 5) (pa_cons (pv 1) (pa_cons (pv 3) pa_nil))))) (pg_tup (n := 2) rfl (pgs_cons (pg_name (i := 6) nd rfl (Or.inl rfl)) (pgs_cons (pg_name (i := 7) nd rfl (Or.inl rfl)) pgs_nil))) (pss_one (ps_for PassesOwn.never rfl (pi_list (pe_fld (pv 5) rfl)) (pg_name (i := 8) nd rfl (Or.inl rfl)) (pss_one (ps_expr (pe_f F_do_deed hr (pa_cons (pv 8) (pa_cons (pv 1) (pa_cons (pv 6) (pa_cons (pv 7) (pa_cons (pv 4) (pa_cons (pe_K rfl (T.g "meet_rows")) (pa_cons (pe_K rfl (T.g "join_rows")) pa_nil)))))))))))))))
    (pss_one (ps_ret (pe_f F_moves_from hr (pa_cons (pe_lc (own := [("image", 9)]) (g := gName 9) (tt := tYes) (by rfl) nd (pi_tup (pv 3)) (blkOk_by (own := [("image", 9)]) (N := N_effect_on) (sc := (defScope (top 71))) (by decide +kernel)) (fun _ _ _ _ _ => (pg_name (i := 9) nd rfl (Or.inl rfl))) (fun _ _ _ _ _ => pts_nil) (fun _ _ _ _ _ => (pe_dget (hu_of hr) (pv 4) (pv 9) (fun _ _ => rfl)))) pa_nil))))))), ?_⟩
    obtain ⟨dx, tp, e0, e1, e2⟩ := hp
    refine seqG fun R hR => ?_
    simp only [tSeq, tRet, tRetN, tAsg, tIf, tIfS, tNext, tTest, tB, cx_K, cx_w, cx_nK, cx_nw, tOp, tUn, tVar, tC, tCons, tNil, tTup, tLst, tF, tM1, tCB, tAnd, tOr, tNot, tAndV, tOrV, tNotV, tChain, tFld, tPart, tNoPart, tSl, rU, rI0, rI, rEq, rNe, rIxD, rIxL, rIxT, rLen, rIsi, rLenQ, rTupOf, rIn, rSlL, rNewStrs, rAppend, rCat, gUnl, tDrop, wipe, List.foldl_cons, List.foldl_nil, StX.tMakeR, sFld, tLenSetN, tDictZip, rIndex, rSorted, rSortedT, rSetOfT, tPar, tPar3, tBM, rSum, rAll, rAny, tNever, gName, gTup, gCons, gNil, L2.start, List.map_cons, List.map_nil, List.length_cons, List.length_nil, List.cons_append, List.nil_append, List.set_cons_zero, List.set_cons_succ, List.getElem?_cons_zero, List.getElem?_cons_succ, Option.some.injEq, V.int.injEq, V.str.injEq, V.bl.injEq, V.ref.injEq, V.ty.injEq, List.cons.injEq, exists_and_left, exists_and_right, exists_eq_left, exists_eq_left', exists_eq, exists_eq', and_true, true_and, exists_const, List.replicate, Nat.sub_self, Nat.reduceAdd, Nat.reduceSub, if_true, if_false, Bool.false_eq_true, ite_true, ite_false, reduceIte]
    refine ⟨n, i, j, ca, rfl, hc, h1, h2, h3, h4, fun H2 ta qs s2 im cel => ?_⟩
    obtain ⟨ts, hts⟩ := hef _ im
    have k := fun H' t => fun a b c => k H' t _ _ a b im hts c
    have hlen := im.len
    have hnod := im.nodup
    obtain ⟨ct', hct', hmp⟩ := Option.bind_eq_some_iff.mp hts
    rw [List.length_map] at hlen
    rw [hR]; clear hR R
    refine seqG fun R hR => ?_
    simp only [tSeq, tRet, tRetN, tAsg, tIf, tIfS, tNext, tTest, tB, cx_K, cx_w, cx_nK, cx_nw, tOp, tUn, tVar, tC, tCons, tNil, tTup, tLst, tF, tM1, tCB, tAnd, tOr, tNot, tAndV, tOrV, tNotV, tChain, tFld, tPart, tNoPart, tSl, rU, rI0, rI, rEq, rNe, rIxD, rIxL, rIxT, rLen, rIsi, rLenQ, rTupOf, rIn, rSlL, rNewStrs, rAppend, rCat, gUnl, tDrop, wipe, List.foldl_cons, List.foldl_nil, StX.tMakeR, sFld, tLenSetN, tDictZip, rIndex, rSorted, rSortedT, rSetOfT, tPar, tPar3, tBM, rSum, rAll, rAny, tNever, gName, gTup, gCons, gNil, L2.start, List.map_cons, List.map_nil, List.length_cons, List.length_nil, List.cons_append, List.nil_append, List.set_cons_zero, List.set_cons_succ, List.getElem?_cons_zero, List.getElem?_cons_succ, Option.some.injEq, V.int.injEq, V.str.injEq, V.bl.injEq, V.ref.injEq, V.ty.injEq, List.cons.injEq, exists_and_left, exists_and_right, exists_eq_left, exists_eq_left', exists_eq, exists_eq', and_true, true_and, exists_const, List.replicate, Nat.sub_self, Nat.reduceAdd, Nat.reduceSub, if_true, if_false, Bool.false_eq_true, ite_true, ite_false, reduceIte]
    refine ⟨_, .inr cel.sq, qs.length, by rw [List.length_map], hlen, fun H3 tb s3 e3 => ?_⟩
    obtain ⟨cs, hcs⟩ : ∃ cs, cs = qs.map (·.2) := ⟨_, rfl⟩
    have hcl : cs.length = qs.length := by rw [hcs, List.length_map]
    rw [← hcs] at im hts hnod hct' hmp
    have hsl : (startsOf qs.length).length = qs.length := by unfold startsOf; rw [List.length_map, List.length_range]
    refine ⟨ta, tb, ⟨rfl, rfl⟩, qs.map fun q => (q.1, ck q.2), ?_, ?_, _, .of e3, ?_, ?_, fun cd hcd => ?_⟩
    · rw [List.map_map]
      exact (cel.same s3).sq
    · intro x hx
      obtain ⟨q, hq, rfl⟩ := List.mem_map.mp hx
      exact s3 _ _ (cel.2 q hq)
    · rw [List.length_map, List.length_map, hsl]
    · rw [List.map_map]
      have : ((qs.map (·.2)).map ck).Nodup := by
        rw [← hcs]
        exact List.Pairwise.map ck (fun a b ne e => ne (ck_eq.mp e)) hnod
      rw [List.map_map] at this
      exact this
    have hd0 : ((qs.map fun q => (q.1, ck q.2)).map (·.2)).zip ((startsOf qs.length).map V.int) = dt (cs.zip (startsOf cs.length)) := by
      rw [List.map_map, hcl, hcs]
      have e : (qs.map ((fun x : Addr × List Key => x.2) ∘ fun q => (q.1, ck q.2))) = (qs.map (·.2)).map ck := by rw [List.map_map]; rfl
      rw [e, List.zip_map]
      rfl
    rw [hd0]
    have s4 : Same H3 (upd H3 cd (.dT (dt (cs.zip (startsOf cs.length))))) := Same.upd (Same.refl H3) hcd
    have e4 : (upd H3 cd (.dT (dt (cs.zip (startsOf cs.length))))) cd = some (.dT (dt (cs.zip (startsOf cs.length)))) := upd_same
    have k4 : (cs.zip (startsOf cs.length)).map (·.1) = cs := List.map_fst_zip (by rw [hcl, hsl]; exact Nat.le_refl _)
    generalize upd H3 cd (.dT (dt (cs.zip (startsOf cs.length)))) = H4 at s4 e4 ⊢
    have nz : ∀ {b u}, H3 b = some u → b ≠ cd := fun e => ne_of_none e hcd
    have stx : ∀ {Ha Hb}, Same H3 Ha → SameX cd Ha Hb → Same H3 Hb := fun sa sx b u e => sx b u (nz e) (sa b u e)
    rw [hR]; clear hR R
    refine seqG fun R hR => ?_
    obtain ⟨Pv, hPv⟩ : ∃ Pv : Nat → L2.St → Hp → Prop, Pv = fun c σ H7 => ∃ (o5 o6 o7 o8 : Option V) (ct : Ct), σ = [some (V.ref pa), some (V.int n), some (V.ref ca), some (V.ref ta), some (V.ref cd), o5, o6, o7, o8, none] ∧ Same H3 H7 ∧ H7 cd = some (.dT (dt ct)) ∧ ct.map (·.1) = cs ∧
      ((ps.map (·.2)).take c).foldlM (nestStep n cs) (cs.zip (startsOf cs.length)) = some ct := ⟨_, rfl⟩
    have s23 := s2.trans s3
    refine ⟨_, rfl, pa, _, dx, _, _, rfl, s4 _ _ (s23 _ _ e0), T.cls.2.2.1, T.noP, rfl, tp, rfl, ⟨_, .of (s4 _ _ (s23 _ _ e1))⟩, for_it (walk_tup (xs := ps.map fun p => V.ref p.1)) Pv (by rw [hPv]; exact ⟨_, _, _, _, _, rfl, s4, e4, k4, rfl⟩) (fun c σ H7 _ p => ?_) (fun c x σ7 H7 H8 hc7 p y => ?_) (fun σ7 H7 p => ?_)⟩
    · rw [hPv] at p
      obtain ⟨_, _, _, _, _, _, s7, _⟩ := p
      exact .of (s7 _ _ (s23 _ _ e1))
    · rw [hPv] at p
      obtain ⟨_, _, _, _, ct, rfl, s7, e7, k7, f7⟩ := p
      obtain ⟨rfl, hx⟩ := y
      rw [List.getElem?_map] at hx
      obtain ⟨q, hq, rfl⟩ := Option.map_eq_some_iff.mp hx
      have hqm := List.mem_of_getElem? hq
      obtain ⟨ct2, hst, f8⟩ := fm_step (show (ps.map (·.2)).foldlM (nestStep n cs) (cs.zip (startsOf cs.length)) = some ct' from hct') (c := c) (x := q.2) (by rw [List.getElem?_map, hq]; rfl) f7
      have okq := ok q hqm
      have hnq := (e2 q hqm).same (s23.trans s7)
      have cel7 : CellsAt H8 ta qs := cel.same (s3.trans s7)
      refine ⟨_, rfl, _, rfl, _, rfl, q.1, ta, n, q.2, qs, rfl, hnq, okq, cel7, hlen, fun H9 t rs s9 cl9 hrs => ⟨t, rfl, ⟨_, .of cl9.1⟩, ?_⟩⟩
      rw [← hcs] at hrs
      have hnq9 := hnq.same s9
      obtain ⟨dq, te, pq, da, n0, n1, n2⟩ := hnq9
      have e9 := s9 _ _ e7
      have s79 := s7.trans s9
      have ntcd : t ≠ cd := fun e => by have := cl9.1; rw [e, e9] at this; cases this
      obtain ⟨Pw, hPw⟩ : ∃ Pw : Nat → L2.St → Hp → Prop, Pw = fun a σ HA => ∃ (o6 o7 o8 : Option V) (cta : Ct), σ = [some (V.ref pa), some (V.int n), some (V.ref ca), some (V.ref ta), some (V.ref cd), some (V.ref q.1), o6, o7, o8, none] ∧ SameX cd H9 HA ∧ HA cd = some (.dT (dt cta)) ∧ cta.map (·.1) = cs ∧
        ((roundsOf q.2 n cs).take a).foldlM (fun ct c => doDeed q.2.deed n c.1 c.2 ct) ct = some cta := ⟨_, rfl⟩
      refine for_it (walk_list (xs := rs.map fun r => V.ref r.1)) Pw (by rw [hPw]; exact ⟨_, _, _, _, rfl, SameX.refl _, e9, k7, rfl⟩) (fun a σ HA _ pA => ?_) (fun a x σA HA HB ha pA yA => ?_) (fun σA HA pA => ?_)
      · rw [hPw] at pA
        obtain ⟨_, _, _, _, _, sA, _⟩ := pA
        exact .of (sA _ _ ntcd cl9.1)
      · rw [hPw] at pA
        obtain ⟨_, _, _, cta, rfl, sA, eA, kA, fA⟩ := pA
        obtain ⟨rfl, hxr⟩ := yA
        rw [List.getElem?_map] at hxr
        obtain ⟨r, hr, rfl⟩ := Option.map_eq_some_iff.mp hxr
        have hr2 : (roundsOf q.2 n cs)[a]? = some r.2 := by rw [← hrs, List.getElem?_map, hr]; rfl
        obtain ⟨ctb, hdo, fB⟩ := fm_step hst hr2 fA
        have cr := cl9.2 r (List.mem_of_getElem? hr)
        have nr : r.1 ≠ cd := fun e => by have h9 : H9 r.1 = _ := cr; rw [e, e9] at h9; cases h9
        have crA := sA _ _ nr cr
        have nq : q.1 ≠ cd := fun e => by have h9 := n0; rw [e, e9] at h9; cases h9
        have nA := sA _ _ nq n0
        have hpq : SqL K HB pq [V.ref da] := sA.seqL e9 n1
        have dA : DeedAt K HB da q.2.deed := sA.deed e9 n2
        have hlA : cta.length ≤ 8 := by
          have := congrArg List.length kA
          rw [List.length_map] at this
          omega
        refine ⟨_, _, rfl, .of crA, rfl, _, _, rfl, _, _, rfl, rfl, ?_⟩
        obtain ⟨Pz, hPz⟩ : ∃ Pz : Nat → L2.St → Hp → Prop, Pz = fun b σ HC => ∃ (o8 : Option V), σ = [some (V.ref pa), some (V.int n), some (V.ref ca), some (V.ref ta), some (V.ref cd), some (V.ref q.1), some (V.int r.2.1), some (V.int r.2.2), o8, none] ∧ SameX cd HB HC ∧ HC cd = some (.dT (dt (if b = 0 then cta else ctb))) := ⟨_, rfl⟩
        refine ⟨_, rfl, q.1, _, dq, _, _, rfl, nA, T.cls.2.1, T.noN.2.2.2, rfl, pq, rfl, ⟨_, hpq⟩, for_it (walk_list (xs := [V.ref da])) Pz (by rw [hPz]; exact ⟨_, rfl, SameX.refl _, eA⟩) (fun b σ HC _ pC => ?_) (fun b x σC HC HD hb pC yC => ?_) (fun σC HC pC => ?_)⟩
        · rw [hPz] at pC
          obtain ⟨_, _, sC, _⟩ := pC
          exact sC.seqL eA hpq
        · have hb0 : b = 0 := by simp at hb; omega
          subst hb0
          rw [hPz] at pC
          obtain ⟨_, rfl, sC, eC⟩ := pC
          obtain ⟨rfl, hxd⟩ := yC
          cases hxd
          refine ⟨_, rfl, _, rfl, _, rfl, _, rfl, _, rfl, da, cd, n, r.2.1, r.2.2, _, _, q.2.deed, cta, ctb, rfl, okq.2.2.1, sC.deed eA dA, eC, hlA, hdo, fun HE sE eE => ?_⟩
          show Pz 1 _ _
          rw [hPz]
          exact ⟨_, rfl, sC.trans sE, eE⟩
        · rw [hPz] at pC
          obtain ⟨_, rfl, sC, eC⟩ := pC
          show Pw (a + 1) _ _
          rw [hPw]
          exact ⟨_, _, _, ctb, rfl, sA.trans sC, eC, (doDeed_keys okq.2.2.1 hdo).trans kA, fB⟩
      · rw [hPw] at pA
        obtain ⟨_, _, _, cta, rfl, sA, eA, kA, fA⟩ := pA
        show Pv (c + 1) _ _
        rw [hPv]
        have hl : rs.length = (roundsOf q.2 n cs).length := by rw [← hrs, List.length_map]
        rw [List.length_map, hl, List.take_length] at fA
        have : cta = ct2 := Option.some.inj (fA.symm.trans hst)
        subst this
        exact ⟨_, _, _, _, _, rfl, stx s79 sA, eA, kA, f8⟩
    · rw [hPv] at p
      obtain ⟨_, _, _, _, ct, rfl, s7, e7, k7, f7⟩ := p
      show R _ _
      rw [hR]; clear hR R
      rw [List.take_of_length_le (by simp)] at f7
      have : ct = ct' := Option.some.inj (f7.symm.trans hct')
      subst this
      simp only [tSeq, tRet, tRetN, tAsg, tIf, tIfS, tNext, tTest, tB, cx_K, cx_w, cx_nK, cx_nw, tOp, tUn, tVar, tC, tCons, tNil, tTup, tLst, tF, tM1, tCB, tAnd, tOr, tNot, tAndV, tOrV, tNotV, tChain, tFld, tPart, tNoPart, tSl, rU, rI0, rI, rEq, rNe, rIxD, rIxL, rIxT, rLen, rIsi, rLenQ, rTupOf, rIn, rSlL, rNewStrs, rAppend, rCat, gUnl, tDrop, wipe, List.foldl_cons, List.foldl_nil, StX.tMakeR, sFld, tLenSetN, tDictZip, rIndex, rSorted, rSortedT, rSetOfT, tPar, tPar3, tBM, rSum, rAll, rAny, tNever, gName, gTup, gCons, gNil, L2.start, List.map_cons, List.map_nil, List.length_cons, List.length_nil, List.cons_append, List.nil_append, List.set_cons_zero, List.set_cons_succ, List.getElem?_cons_zero, List.getElem?_cons_succ, Option.some.injEq, V.int.injEq, V.str.injEq, V.bl.injEq, V.ref.injEq, V.ty.injEq, List.cons.injEq, exists_and_left, exists_and_right, exists_eq_left, exists_eq_left', exists_eq, exists_eq', and_true, true_and, exists_const, List.replicate, Nat.sub_self, Nat.reduceAdd, Nat.reduceSub, if_true, if_false, Bool.false_eq_true, ite_true, ite_false, reduceIte]
      obtain ⟨m1, m2⟩ := mapM_some hmp
      have cel7 : CellsAt H7 ta qs := cel.same (s3.trans s7)
      refine ⟨_, rfl, ta, rfl, ⟨_, cel7.sq⟩, fun D hD => lcm (walk_tup (xs := qs.map fun q => V.ref q.1)) (by rw [List.length_map, sizeLine_eq]; omega) hD (fun a => V.int (ts.getD a 0)) (fun H sa => (cel7.same sa).sq) (fun a x H9 H' Q5 ha sa9 y hq => ?_) (fun H9 sa9 e9 => ?_)⟩
      · obtain ⟨rfl, hx⟩ := y
        rw [List.getElem?_map] at hx
        obtain ⟨q, hq2, rfl⟩ := Option.map_eq_some_iff.mp hx
        obtain ⟨v, hv1, hv2⟩ := m2 a q.2 (by rw [hcs, List.getElem?_map, hq2]; rfl)
        refine ⟨rfl, _, rfl, _, rfl, cd, .int v, rfl, ?_, ?_⟩
        · have := DGet.t (k := ck q.2) (sa9 _ _ e7) (sa9 _ _ (cel7.2 q (List.mem_of_getElem? hq2)))
          rw [dt_get, hv2] at this
          exact this
        · have e1 : ts.getD a 0 = v := by rw [List.getD_eq_getElem?_getD, hv1]; rfl
          rw [← e1]
          exact hq _ (Same.refl _)
      · rw [List.length_map, ← hcl, ← m1, range_getD] at e9
        refine ⟨D, ts, rfl, .of e9, by omega, fun HA t sA ht eA => ?_⟩
        have sall := (s23.trans s7).trans sa9
        exact k HA t (sall.trans sA) (Same.free sall ht) eA
end
end Sq

set_option Elab.async false
set_option linter.all false
set_option maxRecDepth 100000
set_option maxHeartbeats 4000000
/-! ## Walks: nests and programs made -/
namespace Sq
open PySem PySem.Spec PyProof.Rows L2 He
section
variable {P : Program} {w : World} {K : PySem.W.Frag} {mg : Str → Option Value} {base : Heap}
/-- a def with a star parameter -/
theorem rawS {x qual : Str} {st : Stmt} {f : Addr} {fd : FuncData} {N ps : List Str} {pv : Str} {k : Nat} {sp : Sp} (F : FnP K x qual st f fd) (S : FnScope N (ps ++ [pv]) (defScope st))
    (hb : ∀ (kV doc pm : Value) (an : Option Addr) (cdv ct : Value) (us rest : List Value), us.length = ps.length → bindArgs (PySem.W.fnOf x qual (defArgs st) (defBody st) (defScope st) .none kV doc pm an cdv ct) ⟨us ++ rest, []⟩ = (newTuple rest >>= fun t => pure (ps.zip us ++ [(pv, t)])))
    (hbody : ∀ (cdv : Value) (A : Around) (outer : List Env) (s : Shared) (H : Hp) (vs : List V) (Q : VK) (E : XK), Room k (A.deeper (envOfC qual (defScope st) s.heap.objs.size f cdv)) → sp vs H Q E →
      ∃ t, PSs (cxOf CX0 P w K mg base N qual (defScope st) f cdv A outer s H E).nox (defBody st) t ∧ t { nx := fun _ H' => Q .non H', rt := Q } (start N vs) H) :
    FnR P w K mg base CX0 (k + 1) f (fun vs H Q E => ∃ ws rest, vs = ws ++ rest ∧ ws.length = ps.length ∧ rest.length ≤ sizeLine ∧ ∀ p, H p = Option.none → sp (ws ++ [V.ref p]) (upd H p (.tup rest)) Q E) := by
  obtain ⟨oc, od, dV, kV, doc, pm, an, cdv, ct, osl, rfl, lk, hcd, hD, hK⟩ := F.ex
  rcases hD with ⟨_, rfl⟩ | ⟨e, _⟩
  · exact StX.fn_star lk hcd S StX.cxUp_none (hb kV doc pm an cdv ct) fun A outer s H vs Q E hr h => let ⟨t, a, b⟩ := hbody cdv A outer s H vs Q E hr h; ⟨t, a.nox, b⟩
  · exact absurd rfl e
theorem seqL_upd {H : Hp} {s l : Addr} {o : HO} {xs : List V} (hne : s ≠ l) (h : SqL K H s xs) : SqL K (upd H l o) s xs := by
  rcases h with (h | ⟨q, h⟩) | h
  · exact .inl (.inl (by rw [upd_ne hne]; exact h))
  · exact .inl (.inr ⟨q, by rw [upd_ne hne]; exact h⟩)
  · exact .inr h
theorem seqL_ins {H H' : Hp} {x a C dx : Addr} {fs : List (Str × V)} {xs : List V} (sx : SameX x H H') (hx : H x = some (.ins C dx fs)) (h : SqL K H a xs) : SqL K H' a xs := by
  rcases h with (h | ⟨o, h⟩) | h
  · exact .inl (.inl (sx _ _ (fun e => by rw [e, hx] at h; cases h) h))
  · exact .inl (.inr ⟨o, sx _ _ (fun e => by rw [e, hx] at h; cases h) h⟩)
  · exact .inr h
theorem deed_ins {H H' : Hp} {x a C dx : Addr} {d : Dd} (sx : SameX x H H') (hx : H x = some (.ins C dx [])) (h : DeedAt K H a d) : DeedAt K H' a d := by
  obtain ⟨dy, b, g, e, e1, e2⟩ := h
  exact ⟨dy, b, g, sx _ _ (fun q => by rw [q, hx] at e; cases e) e, seqL_ins sx hx e1, seqL_ins sx hx e2⟩
theorem isi_own {H : Hp} {a C dx : Addr} {fs : List (Str × V)} (h : insB K C = true) (cl : Cls K C) (e : H a = some (.ins C dx fs)) : TyX K H (.ref a) (.ref C) ∧ PySem.W.kitOne K (.ref C) (.ref C) = some true := by
  unfold insB at h
  obtain ⟨h1, h⟩ := ba h
  obtain ⟨h2, h⟩ := ba h
  obtain ⟨h3, h⟩ := ba h
  obtain ⟨h4, h5⟩ := ba h
  exact ⟨.base (.ins e cl (eqO_ok h1) (eqO_ok h2) (of_decide_eq_true h3) (of_decide_eq_true h4)), of_decide_eq_true h5⟩
abbrev N_Nest_init : List Str := ["self", "outer", "inner", "deeds", "parsed", "index", "deed", "known"]
theorem sc_Nest_init : FnScope N_Nest_init ["self", "outer", "inner", "deeds"] (defScope (inClass (top 77) 0)) := ⟨rfl, rfl, rfl, by decide +kernel, rfl, by decide +kernel, by decide +kernel⟩
def spNestInit (K : PySem.W.Frag) : Sp := fun vs H Q _ => ∃ (x dx p : Addr) (ns : Ns), vs = [.ref x, .str ns.over.txt, .str ns.below.txt, .ref p] ∧ NsOk ns ∧ H x = some (.ins (ga K "Nest") dx []) ∧ H p = some (.tup [.str ns.deed.txt]) ∧
  ∀ H', SameX x H H' → NestAt K H' x ns → Q .non H'
theorem F_Nest_init (T : TX w K mg) : FnR P w K mg base CX0 4 (ma K (ga K "Nest") "__init__") (fun vs H Q E => ∃ ws rest, vs = ws ++ rest ∧ ws.length = 3 ∧ rest.length ≤ sizeLine ∧ ∀ p, H p = none → spNestInit K (ws ++ [V.ref p]) (upd H p (.tup rest)) Q E) := by
  obtain ⟨fd, F⟩ := T.fi 52
  have nd := sc_Nest_init.nd
  have F_is_loop := F_is_loop (P := P) (base := base) T
  have F_parsed_deed := F_parsed_deed (P := P) (base := base) T
  refine rawS (ps := ["self", "outer", "inner"]) (pv := "deeds") F sc_Nest_init (fun kV doc pm an cdv ct us rest hl => ?_) (fun cdv A outer s H vs Q E hr h => ?_)
  · match us, rest, hl with
    | [a, b, c], [], _ => rfl
    | [a, b, c], r :: rs, _ => rfl
  · obtain ⟨x, dx, p, ns, rfl, ok, hx, hp, k⟩ := h
    obtain ⟨k1, k2, k3, k4⟩ := ok
    refine ⟨_, (pss_cons (ps_if (pt_not (pt_val (pe_f F_is_loop hr (pa_cons (pv 1) (pa_cons (pe_bl) pa_nil))))) (pss_one (ps_never)) pss_nil)
    (pss_cons (ps_if (pt_not (pt_val (pe_f F_is_loop hr (pa_cons (pv 2) (pa_cons (pe_bl) pa_nil))))) (pss_one (ps_never)) pss_nil)
    (pss_cons (ps_set (i := 4) nd rfl (Or.inl rfl) (pe_lst pa_nil))
    (pss_cons (ps_for PassesOwn.never rfl (pi_enumT (by rfl) (T.z "enumerate") (pa_cons (pv 3) pa_nil)) (pg_tup (n := 2) rfl (pgs_cons (pg_name (i := 5) nd rfl (Or.inl rfl)) (pgs_cons (pg_name (i := 6) nd rfl (Or.inl rfl)) pgs_nil))) (pss_cons (ps_set (i := 7) nd rfl (Or.inl rfl) (pe_f F_parsed_deed hr (pa_cons (pv 6) pa_nil)))
    (pss_cons (ps_if (PW.pt (pw_or (pt_cmpR op_isN (pv 7) pe_non (nomark _)) (pw_or1 (pt_cmpR op_ge (pv 5) (pe_gi rfl T.deeds) (nomark _))))) (pss_one (ps_never)) pss_nil)
    (pss_one (ps_expr (pe_bm PySem.F.plainAttrs_list PySem.F.slot_list_append PySem.F.type_list_append mt_append (pv 4) (pa_cons (pv 7) pa_nil)))))))
    (pss_cons (ps_fld (pv 0) (pv 1) rfl)
    (pss_cons (ps_fld (pv 0) (pv 2) rfl)
    (pss_cons (ps_fld (pv 0) (pv 3) rfl)
    (pss_one (ps_fld (pv 0) (pv 4) rfl))))))))), ?_⟩
    refine seqG fun R hR => ?_
    simp only [tSeq, tRet, tRetN, tAsg, tIf, tIfS, tNext, tTest, tB, cx_K, cx_w, cx_nK, cx_nw, tOp, tUn, tVar, tC, tCons, tNil, tTup, tLst, tF, tM1, tCB, tAnd, tOr, tNot, tAndV, tOrV, tNotV, tChain, tFld, tPart, tNoPart, tSl, rU, rI0, rI, rEq, rNe, rIxD, rIxL, rIxT, rLen, rIsi, rLenQ, rTupOf, rIn, rSlL, rNewStrs, rAppend, rCat, gUnl, tDrop, wipe, List.foldl_cons, List.foldl_nil, StX.tMakeR, sFld, tLenSetN, tDictZip, rIndex, rSorted, rSortedT, rSetOfT, tPar, tPar3, tBM, rSum, rAll, rAny, tNever, gName, gTup, gCons, gNil, L2.start, List.map_cons, List.map_nil, List.length_cons, List.length_nil, List.cons_append, List.nil_append, List.set_cons_zero, List.set_cons_succ, List.getElem?_cons_zero, List.getElem?_cons_succ, Option.some.injEq, V.int.injEq, V.str.injEq, V.bl.injEq, V.ref.injEq, V.ty.injEq, List.cons.injEq, exists_and_left, exists_and_right, exists_eq_left, exists_eq_left', exists_eq, exists_eq', and_true, true_and, exists_const, List.replicate, Nat.sub_self, Nat.reduceAdd, Nat.reduceSub, if_true, if_false, Bool.false_eq_true, ite_true, ite_false, reduceIte]
    refine ⟨ns.over, false, rfl, k1, fun h => absurd (k4.symm.trans h) (by decide), fun H1 s1 => ⟨_, rfl, iteF ?_⟩⟩
    rw [hR]; clear hR R
    refine seqG fun R hR => ?_
    simp only [tSeq, tRet, tRetN, tAsg, tIf, tIfS, tNext, tTest, tB, cx_K, cx_w, cx_nK, cx_nw, tOp, tUn, tVar, tC, tCons, tNil, tTup, tLst, tF, tM1, tCB, tAnd, tOr, tNot, tAndV, tOrV, tNotV, tChain, tFld, tPart, tNoPart, tSl, rU, rI0, rI, rEq, rNe, rIxD, rIxL, rIxT, rLen, rIsi, rLenQ, rTupOf, rIn, rSlL, rNewStrs, rAppend, rCat, gUnl, tDrop, wipe, List.foldl_cons, List.foldl_nil, StX.tMakeR, sFld, tLenSetN, tDictZip, rIndex, rSorted, rSortedT, rSetOfT, tPar, tPar3, tBM, rSum, rAll, rAny, tNever, gName, gTup, gCons, gNil, L2.start, List.map_cons, List.map_nil, List.length_cons, List.length_nil, List.cons_append, List.nil_append, List.set_cons_zero, List.set_cons_succ, List.getElem?_cons_zero, List.getElem?_cons_succ, Option.some.injEq, V.int.injEq, V.str.injEq, V.bl.injEq, V.ref.injEq, V.ty.injEq, List.cons.injEq, exists_and_left, exists_and_right, exists_eq_left, exists_eq_left', exists_eq, exists_eq', and_true, true_and, exists_const, List.replicate, Nat.sub_self, Nat.reduceAdd, Nat.reduceSub, if_true, if_false, Bool.false_eq_true, ite_true, ite_false, reduceIte]
    refine ⟨ns.below, true, rfl, k2, fun _ => rfl, fun H2 s2 => ⟨_, rfl, iteF ?_⟩⟩
    rw [hR]; clear hR R
    refine seqG fun R hR => ?_
    simp only [tSeq, tRet, tRetN, tAsg, tIf, tIfS, tNext, tTest, tB, cx_K, cx_w, cx_nK, cx_nw, tOp, tUn, tVar, tC, tCons, tNil, tTup, tLst, tF, tM1, tCB, tAnd, tOr, tNot, tAndV, tOrV, tNotV, tChain, tFld, tPart, tNoPart, tSl, rU, rI0, rI, rEq, rNe, rIxD, rIxL, rIxT, rLen, rIsi, rLenQ, rTupOf, rIn, rSlL, rNewStrs, rAppend, rCat, gUnl, tDrop, wipe, List.foldl_cons, List.foldl_nil, StX.tMakeR, sFld, tLenSetN, tDictZip, rIndex, rSorted, rSortedT, rSetOfT, tPar, tPar3, tBM, rSum, rAll, rAny, tNever, gName, gTup, gCons, gNil, L2.start, List.map_cons, List.map_nil, List.length_cons, List.length_nil, List.cons_append, List.nil_append, List.set_cons_zero, List.set_cons_succ, List.getElem?_cons_zero, List.getElem?_cons_succ, Option.some.injEq, V.int.injEq, V.str.injEq, V.bl.injEq, V.ref.injEq, V.ty.injEq, List.cons.injEq, exists_and_left, exists_and_right, exists_eq_left, exists_eq_left', exists_eq, exists_eq', and_true, true_and, exists_const, List.replicate, Nat.sub_self, Nat.reduceAdd, Nat.reduceSub, if_true, if_false, Bool.false_eq_true, ite_true, ite_false, reduceIte]
    refine ⟨by rw [sizeLine_eq]; decide, fun l hl => ?_⟩
    have s3 : Same H2 (upd H2 l (.lst [])) := Same.upd (Same.refl H2) hl
    have e3 : (upd H2 l (.lst [])) l = some (.lst []) := upd_same
    generalize upd H2 l (.lst []) = H3 at s3 e3 ⊢
    have s13 := s1.trans (s2.trans s3)
    have hlH : H l = none := Same.free (s1.trans s2) hl
    rw [hR]; clear hR R
    refine seqG fun R hR => ?_
    obtain ⟨Pz, hPz⟩ : ∃ Pz : Nat → L2.St → Hp → Prop, Pz = fun b σ HC => ∃ (o5 o6 o7 : Option V), σ = [some (V.ref x), some (V.str ns.over.txt), some (V.str ns.below.txt), some (V.ref p), some (V.ref l), o5, o6, o7] ∧ Same H HC ∧ (if b = 0 then HC l = some (.lst []) else ∃ da, HC l = some (.lst [V.ref da]) ∧ DeedAt K HC da ns.deed) := ⟨_, rfl⟩
    refine ⟨_, rfl, p, _, rfl, .of (s13 _ _ hp), for_it (walk_enumT (xs := [V.str ns.deed.txt])) Pz (by rw [hPz]; exact ⟨_, _, _, rfl, s13, e3⟩) (fun b σ HC _ pC => ?_) (fun b y σC HC HD hb pC yC => ?_) (fun σC HC pC => ?_)⟩
    · rw [hPz] at pC
      obtain ⟨_, _, _, _, sC, _⟩ := pC
      exact .of (sC _ _ hp)
    · have hb0 : b = 0 := by simp at hb; omega
      subst hb0
      rw [hPz] at pC
      obtain ⟨_, _, _, rfl, sC, eC⟩ := pC
      rw [if_pos rfl] at eC
      obtain ⟨t, y1, y2, rfl, ht, rfl, hy1, hy2⟩ := yC
      cases hy1
      cases hy2
      have st : Same HC (upd HC t (.tup [V.int ((0 : Nat) : Int), V.str ns.deed.txt])) := Same.upd (Same.refl HC) ht
      have et : (upd HC t (.tup [V.int ((0 : Nat) : Int), V.str ns.deed.txt])) t = some (.tup [V.int ((0 : Nat) : Int), V.str ns.deed.txt]) := upd_same
      refine ⟨_, _, rfl, .of et, rfl, _, _, rfl, _, _, rfl, rfl, ?_⟩
      generalize upd HC t (.tup [V.int ((0 : Nat) : Int), V.str ns.deed.txt]) = HT at st et ⊢
      refine seqG fun R2 hR2 => ?_
      simp only [tSeq, tRet, tRetN, tAsg, tIf, tIfS, tNext, tTest, tB, cx_K, cx_w, cx_nK, cx_nw, tOp, tUn, tVar, tC, tCons, tNil, tTup, tLst, tF, tM1, tCB, tAnd, tOr, tNot, tAndV, tOrV, tNotV, tChain, tFld, tPart, tNoPart, tSl, rU, rI0, rI, rEq, rNe, rIxD, rIxL, rIxT, rLen, rIsi, rLenQ, rTupOf, rIn, rSlL, rNewStrs, rAppend, rCat, gUnl, tDrop, wipe, List.foldl_cons, List.foldl_nil, StX.tMakeR, sFld, tLenSetN, tDictZip, rIndex, rSorted, rSortedT, rSetOfT, tPar, tPar3, tBM, rSum, rAll, rAny, tNever, gName, gTup, gCons, gNil, L2.start, List.map_cons, List.map_nil, List.length_cons, List.length_nil, List.cons_append, List.nil_append, List.set_cons_zero, List.set_cons_succ, List.getElem?_cons_zero, List.getElem?_cons_succ, Option.some.injEq, V.int.injEq, V.str.injEq, V.bl.injEq, V.ref.injEq, V.ty.injEq, List.cons.injEq, exists_and_left, exists_and_right, exists_eq_left, exists_eq_left', exists_eq, exists_eq', and_true, true_and, exists_const, List.replicate, Nat.sub_self, Nat.reduceAdd, Nat.reduceSub, if_true, if_false, Bool.false_eq_true, ite_true, ite_false, reduceIte]
      refine ⟨ns.deed, k3, rfl, fun HE da sE hda dE => ?_⟩
      show R2 _ _
      rw [hR2]; clear hR2 R2
      refine seqG fun R2 hR2 => ?_
      simp only [tSeq, tRet, tRetN, tAsg, tIf, tIfS, tNext, tTest, tB, cx_K, cx_w, cx_nK, cx_nw, tOp, tUn, tVar, tC, tCons, tNil, tTup, tLst, tF, tM1, tCB, tAnd, tOr, tNot, tAndV, tOrV, tNotV, tChain, tFld, tPart, tNoPart, tSl, rU, rI0, rI, rEq, rNe, rIxD, rIxL, rIxT, rLen, rIsi, rLenQ, rTupOf, rIn, rSlL, rNewStrs, rAppend, rCat, gUnl, tDrop, wipe, List.foldl_cons, List.foldl_nil, StX.tMakeR, sFld, tLenSetN, tDictZip, rIndex, rSorted, rSortedT, rSetOfT, tPar, tPar3, tBM, rSum, rAll, rAny, tNever, gName, gTup, gCons, gNil, L2.start, List.map_cons, List.map_nil, List.length_cons, List.length_nil, List.cons_append, List.nil_append, List.set_cons_zero, List.set_cons_succ, List.getElem?_cons_zero, List.getElem?_cons_succ, Option.some.injEq, V.int.injEq, V.str.injEq, V.bl.injEq, V.ref.injEq, V.ty.injEq, List.cons.injEq, exists_and_left, exists_and_right, exists_eq_left, exists_eq_left', exists_eq, exists_eq', and_true, true_and, exists_const, List.replicate, Nat.sub_self, Nat.reduceAdd, Nat.reduceSub, if_true, if_false, Bool.false_eq_true, ite_true, ite_false, reduceIte]
      refine iteF (iteF ?_)
      rw [hR2]; clear hR2 R2
      simp only [tSeq, tRet, tRetN, tAsg, tIf, tIfS, tNext, tTest, tB, cx_K, cx_w, cx_nK, cx_nw, tOp, tUn, tVar, tC, tCons, tNil, tTup, tLst, tF, tM1, tCB, tAnd, tOr, tNot, tAndV, tOrV, tNotV, tChain, tFld, tPart, tNoPart, tSl, rU, rI0, rI, rEq, rNe, rIxD, rIxL, rIxT, rLen, rIsi, rLenQ, rTupOf, rIn, rSlL, rNewStrs, rAppend, rCat, gUnl, tDrop, wipe, List.foldl_cons, List.foldl_nil, StX.tMakeR, sFld, tLenSetN, tDictZip, rIndex, rSorted, rSortedT, rSetOfT, tPar, tPar3, tBM, rSum, rAll, rAny, tNever, gName, gTup, gCons, gNil, L2.start, List.map_cons, List.map_nil, List.length_cons, List.length_nil, List.cons_append, List.nil_append, List.set_cons_zero, List.set_cons_succ, List.getElem?_cons_zero, List.getElem?_cons_succ, Option.some.injEq, V.int.injEq, V.str.injEq, V.bl.injEq, V.ref.injEq, V.ty.injEq, List.cons.injEq, exists_and_left, exists_and_right, exists_eq_left, exists_eq_left', exists_eq, exists_eq', and_true, true_and, exists_const, List.replicate, Nat.sub_self, Nat.reduceAdd, Nat.reduceSub, if_true, if_false, Bool.false_eq_true, ite_true, ite_false, reduceIte]
      have elT := st _ _ eC
      have el := sE _ _ elT
      obtain ⟨dy, sa, g, f1, f2, f3, n1, n2⟩ := dE
      have nal : da ≠ l := fun e => by rw [e, el] at f1; cases f1
      have nsl : sa ≠ l := fun e => by rw [e, elT] at n1; cases n1
      have ngl : g ≠ l := fun e => by rw [e, elT] at n2; cases n2
      refine ⟨.inl ⟨rfl, _, .of el⟩, _, el, by rw [sizeLine_eq]; decide, ?_⟩
      show Pz 1 _ _
      rw [hPz]
      refine ⟨_, _, _, rfl, Same.updD (sC.trans (st.trans sE)) hlH, ?_⟩
      rw [if_neg (by decide)]
      exact ⟨da, upd_same, dy, sa, g, by rw [upd_ne nal]; exact f1, seqL_upd nsl f2, seqL_upd ngl f3⟩
    · rw [hPz] at pC
      obtain ⟨_, _, _, rfl, sC, eC⟩ := pC
      rw [if_neg (by simp)] at eC
      obtain ⟨da, el, dC⟩ := eC
      show R _ _
      rw [hR]; clear hR R
      simp only [tSeq, tRet, tRetN, tAsg, tIf, tIfS, tNext, tTest, tB, cx_K, cx_w, cx_nK, cx_nw, tOp, tUn, tVar, tC, tCons, tNil, tTup, tLst, tF, tM1, tCB, tAnd, tOr, tNot, tAndV, tOrV, tNotV, tChain, tFld, tPart, tNoPart, tSl, rU, rI0, rI, rEq, rNe, rIxD, rIxL, rIxT, rLen, rIsi, rLenQ, rTupOf, rIn, rSlL, rNewStrs, rAppend, rCat, gUnl, tDrop, wipe, List.foldl_cons, List.foldl_nil, StX.tMakeR, sFld, tLenSetN, tDictZip, rIndex, rSorted, rSortedT, rSetOfT, tPar, tPar3, tBM, rSum, rAll, rAny, tNever, gName, gTup, gCons, gNil, L2.start, List.map_cons, List.map_nil, List.length_cons, List.length_nil, List.cons_append, List.nil_append, List.set_cons_zero, List.set_cons_succ, List.getElem?_cons_zero, List.getElem?_cons_succ, Option.some.injEq, V.int.injEq, V.str.injEq, V.bl.injEq, V.ref.injEq, V.ty.injEq, List.cons.injEq, exists_and_left, exists_and_right, exists_eq_left, exists_eq_left', exists_eq, exists_eq', and_true, true_and, exists_const, List.replicate, Nat.sub_self, Nat.reduceAdd, Nat.reduceSub, if_true, if_false, Bool.false_eq_true, ite_true, ite_false, reduceIte]
      have hxC := sC _ _ hx
      refine ⟨_, _, _, hxC, T.cls.2.1, T.noN.1, by show (0 : Nat) < 1000; decide, ?_⟩
      refine ⟨_, _, _, upd_same, T.cls.2.1, T.noN.2.1, by show (1 : Nat) < 1000; decide, ?_⟩
      refine ⟨_, _, _, upd_same, T.cls.2.1, T.noN.2.2.1, by show (2 : Nat) < 1000; decide, ?_⟩
      refine ⟨_, _, _, upd_same, T.cls.2.1, T.noN.2.2.2, by show (3 : Nat) < 1000; decide, ?_⟩
      rw [upd_upd, upd_upd, upd_upd]
      have nxl : l ≠ x := fun e => by rw [e, hxC] at el; cases el
      refine k _ ((SameX.of sC).trans SameX.upd) ⟨dx, p, l, da, upd_same, .of (by rw [upd_ne nxl]; exact el), deed_ins SameX.upd hxC dC⟩
abbrev N_Program_init : List Str := ["self", "nests", "index", "nest"]
theorem sc_Program_init : FnScope N_Program_init ["self", "nests"] (defScope (inClass (top 78) 0)) := ⟨rfl, rfl, rfl, by decide +kernel, rfl, by decide +kernel, by decide +kernel⟩
def spProgInit (K : PySem.W.Frag) : Sp := fun vs H Q _ => ∃ (x dx p : Addr) (ps : List (Addr × Ns)), vs = [.ref x, .ref p] ∧ H x = some (.ins (ga K "Program") dx []) ∧ H p = some (.tup (ps.map fun q => V.ref q.1)) ∧ ps.length ≤ 4 ∧ (∀ q ∈ ps, NestAt K H q.1 q.2) ∧
  ∀ H', SameX x H H' → ProgAt K H' x ps → Q .non H'
theorem nest_ins {H H' : Hp} {x a C dx : Addr} {d : Ns} (sx : SameX x H H') (hx : H x = some (.ins C dx [])) (h : NestAt K H a d) : NestAt K H' a d := by
  obtain ⟨dy, te, ps, da, e, e1, e2⟩ := h
  exact ⟨dy, te, ps, da, sx _ _ (fun q => by rw [q, hx] at e; cases e) e, seqL_ins sx hx e1, deed_ins sx hx e2⟩
theorem F_Program_init (T : TX w K mg) : FnR P w K mg base CX0 1 (ma K (ga K "Program") "__init__") (fun vs H Q E => ∃ ws rest, vs = ws ++ rest ∧ ws.length = 1 ∧ rest.length ≤ sizeLine ∧ ∀ p, H p = none → spProgInit K (ws ++ [V.ref p]) (upd H p (.tup rest)) Q E) := by
  obtain ⟨fd, F⟩ := T.fi 53
  have nd := sc_Program_init.nd
  refine rawS (ps := ["self"]) (pv := "nests") F sc_Program_init (fun kV doc pm an cdv ct us rest hl => ?_) (fun cdv A outer s H vs Q E hr h => ?_)
  · match us, rest, hl with
    | [a], [], _ => rfl
    | [a], r :: rs, _ => rfl
  · obtain ⟨x, dx, p, ps, rfl, hx, hp, hl, hn, k⟩ := h
    refine ⟨_, (pss_cons (ps_for PassesOwn.never rfl (pi_enumT (by rfl) (T.z "enumerate") (pa_cons (pv 1) pa_nil)) (pg_tup (n := 2) rfl (pgs_cons (pg_name (i := 2) nd rfl (Or.inl rfl)) (pgs_cons (pg_name (i := 3) nd rfl (Or.inl rfl)) pgs_nil))) (pss_one (ps_if (PW.pt (pw_or (pt_not (pt_val (pe_callB call_isi (by rfl) (T.z "isinstance") (by decide +kernel) (pa_cons (pv 3) (pa_cons (pe_K rfl (T.g "Nest")) pa_nil))))) (pw_or1 (pt_cmpR op_ge (pv 2) (pe_gi rfl T.nests) (nomark _))))) (pss_one (ps_never)) pss_nil)))
    (pss_one (ps_fld (pv 0) (pv 1) rfl))), ?_⟩
    refine seqG fun R hR => ?_
    obtain ⟨Pz, hPz⟩ : ∃ Pz : Nat → L2.St → Hp → Prop, Pz = fun b σ HC => ∃ (o5 o6 : Option V), σ = [some (V.ref x), some (V.ref p), o5, o6] ∧ Same H HC := ⟨_, rfl⟩
    refine ⟨_, rfl, p, _, rfl, .of hp, for_it (walk_enumT (xs := ps.map fun q => V.ref q.1)) Pz (by rw [hPz]; exact ⟨_, _, rfl, Same.refl H⟩) (fun b σ HC _ pC => ?_) (fun b y σC HC HD hb pC yC => ?_) (fun σC HC pC => ?_)⟩
    · rw [hPz] at pC
      obtain ⟨_, _, _, sC⟩ := pC
      exact .of (sC _ _ hp)
    · rw [hPz] at pC
      obtain ⟨_, _, rfl, sC⟩ := pC
      rw [List.length_map] at hb
      obtain ⟨t, y1, y2, rfl, ht, rfl, hy1, hy2⟩ := yC
      cases hy1
      have hy2 : (ps.map fun q => V.ref q.1)[b]? = some y2 := hy2
      rw [List.getElem?_map] at hy2
      obtain ⟨q, hq, rfl⟩ := Option.map_eq_some_iff.mp hy2
      have st : Same HC (upd HC t (.tup [V.int (b : Nat), V.ref q.1])) := Same.upd (Same.refl HC) ht
      have et : (upd HC t (.tup [V.int (b : Nat), V.ref q.1])) t = some (.tup [V.int (b : Nat), V.ref q.1]) := upd_same
      refine ⟨_, _, rfl, .of et, rfl, _, _, rfl, _, _, rfl, rfl, ?_⟩
      generalize upd HC t (.tup [V.int (b : Nat), V.ref q.1]) = HT at st et ⊢
      show tIfS _ _ _ _ _ _
      obtain ⟨dy, te, pq, da, e, e1, e2⟩ := (hn q (List.mem_of_getElem? hq)).same (sC.trans st)
      simp only [tSeq, tRet, tRetN, tAsg, tIf, tIfS, tNext, tTest, tB, cx_K, cx_w, cx_nK, cx_nw, tOp, tUn, tVar, tC, tCons, tNil, tTup, tLst, tF, tM1, tCB, tAnd, tOr, tNot, tAndV, tOrV, tNotV, tChain, tFld, tPart, tNoPart, tSl, rU, rI0, rI, rEq, rNe, rIxD, rIxL, rIxT, rLen, rIsi, rLenQ, rTupOf, rIn, rSlL, rNewStrs, rAppend, rCat, gUnl, tDrop, wipe, List.foldl_cons, List.foldl_nil, StX.tMakeR, sFld, tLenSetN, tDictZip, rIndex, rSorted, rSortedT, rSetOfT, tPar, tPar3, tBM, rSum, rAll, rAny, tNever, gName, gTup, gCons, gNil, L2.start, List.map_cons, List.map_nil, List.length_cons, List.length_nil, List.cons_append, List.nil_append, List.set_cons_zero, List.set_cons_succ, List.getElem?_cons_zero, List.getElem?_cons_succ, Option.some.injEq, V.int.injEq, V.str.injEq, V.bl.injEq, V.ref.injEq, V.ty.injEq, List.cons.injEq, exists_and_left, exists_and_right, exists_eq_left, exists_eq_left', exists_eq, exists_eq', and_true, true_and, exists_const, List.replicate, Nat.sub_self, Nat.reduceAdd, Nat.reduceSub, if_true, if_false, Bool.false_eq_true, ite_true, ite_false, reduceIte]
      obtain ⟨ty, kt⟩ := isi_own T.e.insN T.cls.2.1 e
      refine ⟨_, _, ⟨rfl, rfl⟩, _, _, .own _, ty, _, kt, iteF ?_⟩
      rw [decide_eq_false (by omega)]
      refine iteF ?_
      rw [hPz]
      exact ⟨_, _, rfl, sC.trans st⟩
    · rw [hPz] at pC
      obtain ⟨_, _, rfl, sC⟩ := pC
      show R _ _
      rw [hR]; clear hR R
      simp only [tSeq, tRet, tRetN, tAsg, tIf, tIfS, tNext, tTest, tB, cx_K, cx_w, cx_nK, cx_nw, tOp, tUn, tVar, tC, tCons, tNil, tTup, tLst, tF, tM1, tCB, tAnd, tOr, tNot, tAndV, tOrV, tNotV, tChain, tFld, tPart, tNoPart, tSl, rU, rI0, rI, rEq, rNe, rIxD, rIxL, rIxT, rLen, rIsi, rLenQ, rTupOf, rIn, rSlL, rNewStrs, rAppend, rCat, gUnl, tDrop, wipe, List.foldl_cons, List.foldl_nil, StX.tMakeR, sFld, tLenSetN, tDictZip, rIndex, rSorted, rSortedT, rSetOfT, tPar, tPar3, tBM, rSum, rAll, rAny, tNever, gName, gTup, gCons, gNil, L2.start, List.map_cons, List.map_nil, List.length_cons, List.length_nil, List.cons_append, List.nil_append, List.set_cons_zero, List.set_cons_succ, List.getElem?_cons_zero, List.getElem?_cons_succ, Option.some.injEq, V.int.injEq, V.str.injEq, V.bl.injEq, V.ref.injEq, V.ty.injEq, List.cons.injEq, exists_and_left, exists_and_right, exists_eq_left, exists_eq_left', exists_eq, exists_eq', and_true, true_and, exists_const, List.replicate, Nat.sub_self, Nat.reduceAdd, Nat.reduceSub, if_true, if_false, Bool.false_eq_true, ite_true, ite_false, reduceIte]
      have hxC := sC _ _ hx
      refine ⟨_, _, _, hxC, T.cls.2.2.1, T.noP, by show (0 : Nat) < 1000; decide, ?_⟩
      have npx : p ≠ x := fun e => by rw [e, hx] at hp; cases hp
      exact k _ ((SameX.of sC).trans SameX.upd) ⟨dx, p, upd_same, by rw [upd_ne npx]; exact sC _ _ hp, fun q hq => nest_ins SameX.upd hxC ((hn q hq).same sC)⟩
def spCheckProgram (K : PySem.W.Frag) : Sp := fun vs H Q _ => ∃ (a : Addr) (ps : List (Addr × Ns)), vs = [.ref a] ∧ ProgAt K H a ps ∧ Q .non H
abbrev N_check_program : List Str := ["value"]
theorem sc_check_program : FnScope N_check_program ["value"] (defScope (top 79)) := ⟨rfl, rfl, rfl, by decide +kernel, rfl, by decide +kernel, by decide +kernel⟩
theorem F_check_program (T : TX w K mg) : Fn P w K mg base 1 "check_program" (spCheckProgram K) := by
  obtain ⟨fd, F⟩ := T.fi 30
  have nd := sc_check_program.nd
  refine ⟨_, raw0 F sc_check_program (fun vs H Q E h => ?_) (fun _ _ _ _ _ _ us hl => match us, hl with | [_], _ => rfl) (fun cdv A outer s H vs Q E hr h => ?_), T.g "check_program", F.kp⟩
  · obtain ⟨a, ps, rfl, hp, k⟩ := h
    rfl
  · obtain ⟨a, ps, rfl, hp, k⟩ := h
    refine ⟨_, (pss_one (ps_if (pt_not (pt_val (pe_callB call_isi (by rfl) (T.z "isinstance") (by decide +kernel) (pa_cons (pv 0) (pa_cons (pe_K rfl (T.g "Program")) pa_nil))))) (pss_one (ps_never)) pss_nil)), ?_⟩
    obtain ⟨dx, t, e, _⟩ := hp
    simp only [tSeq, tRet, tRetN, tAsg, tIf, tIfS, tNext, tTest, tB, cx_K, cx_w, cx_nK, cx_nw, tOp, tUn, tVar, tC, tCons, tNil, tTup, tLst, tF, tM1, tCB, tAnd, tOr, tNot, tAndV, tOrV, tNotV, tChain, tFld, tPart, tNoPart, tSl, rU, rI0, rI, rEq, rNe, rIxD, rIxL, rIxT, rLen, rIsi, rLenQ, rTupOf, rIn, rSlL, rNewStrs, rAppend, rCat, gUnl, tDrop, wipe, List.foldl_cons, List.foldl_nil, StX.tMakeR, sFld, tLenSetN, tDictZip, rIndex, rSorted, rSortedT, rSetOfT, tPar, tPar3, tBM, rSum, rAll, rAny, tNever, gName, gTup, gCons, gNil, L2.start, List.map_cons, List.map_nil, List.length_cons, List.length_nil, List.cons_append, List.nil_append, List.set_cons_zero, List.set_cons_succ, List.getElem?_cons_zero, List.getElem?_cons_succ, Option.some.injEq, V.int.injEq, V.str.injEq, V.bl.injEq, V.ref.injEq, V.ty.injEq, List.cons.injEq, exists_and_left, exists_and_right, exists_eq_left, exists_eq_left', exists_eq, exists_eq', and_true, true_and, exists_const, List.replicate, Nat.sub_self, Nat.reduceAdd, Nat.reduceSub, if_true, if_false, Bool.false_eq_true, ite_true, ite_false, reduceIte]
    obtain ⟨ty, kt⟩ := isi_own T.e.insP T.cls.2.2.1 e
    exact ⟨_, _, ⟨rfl, rfl⟩, _, _, .own _, ty, _, kt, iteF k⟩
end
end Sq

set_option Elab.async false
set_option linter.all false
set_option maxRecDepth 100000
set_option maxHeartbeats 4000000
/-! ## Walks: sizes -/
namespace Sq
open PySem PySem.Spec PyProof.Rows L2 He
section
variable {P : Program} {w : World} {K : PySem.W.Frag} {mg : Str → Option Value} {base : Heap}
/-- None or a whole number -/
def ovV : Option Int → V
  | none => .non
  | some i => .int i
def goesOn (e o : Option Int) (n : Int) : Bool := match (if n % 2 = 0 then e else o) with
  | none => false
  | some b => decide (b ≤ n)
def tailFuel : Nat → List Int → Int → Int
  | 0, _, b => b
  | k + 1, xs, b => if b - 2 ∈ xs then tailFuel k xs (b - 2) else b
def tailOf (xs : List Int) (b : Option Int) : Option Int := b.map (tailFuel xs.length xs)
theorem tailFuel_no {xs : List Int} {b : Int} (h : b - 2 ∉ xs) : ∀ k, tailFuel k xs b = b
  | 0 => rfl
  | k + 1 => by rw [tailFuel, if_neg h]
theorem below_lt {xs : List Int} {b : Int} (h : b - 2 ∈ xs) : (xs.filter fun x => decide (x < b - 2)).length < (xs.filter fun x => decide (x < b)).length := by
  induction xs with
  | nil => cases h
  | cons x xs ih =>
    have mono : (xs.filter fun x => decide (x < b - 2)).length ≤ (xs.filter fun x => decide (x < b)).length := by
      clear ih h
      induction xs with
      | nil => exact Nat.le_refl _
      | cons y ys ih => 
        rw [List.filter_cons, List.filter_cons]
        by_cases h1 : y < b - 2
        · have h2 : y < b := by omega
          simp [h1, h2, ih]
        · by_cases h2 : y < b
          · simp [h1, h2]; omega
          · simp [h1, h2, ih]
    rw [List.filter_cons, List.filter_cons]
    rcases List.mem_cons.mp h with e | hm
    · have h1 : ¬ x < b - 2 := by omega
      have h2 : x < b := by omega
      simp [h1, h2]; omega
    · have := ih hm
      by_cases h1 : x < b - 2
      · have h2 : x < b := by omega
        simp [h1, h2, this]
      · by_cases h2 : x < b
        · simp [h1, h2]; omega
        · simp [h1, h2, this]
/-- what Sizes asks of its own listing -/
def okListed (xs : List Int) (m : Int) : Prop := ∀ i, i < xs.length → (if i = 0 then 0 else xs.getD (i - 1) 0) + 1 ≤ xs.getD i 0 ∧ xs.getD i 0 ≤ m
def okTail (b : Option Int) (r m : Int) : Prop := ∀ v, b = some v → 1 ≤ v ∧ v ≤ m ∧ v % 2 = r
def fewOf (xs : List Int) (e o : Option Int) : List Int := xs.filter fun n => !goesOn e o n
theorem tyT {H : Hp} {a : Addr} {xs : List V} (h : SqT K H a xs) : TyX K H (.ref a) (.type "tuple") := by
  rcases h with (h | ⟨o, h⟩) | ⟨o, its, n, e, c, _⟩
  · exact .base (.tup h)
  · exact .fTuple h
  · exact .kTuple e c
def spCheckListed (K : PySem.W.Frag) : Sp := fun vs H Q _ => ∃ (t : Addr) (xs : List Int) (m : Int), vs = [.ref t, .int m] ∧ SqT K H t (xs.map V.int) ∧ okListed xs m ∧ xs.length ≤ 1000 ∧ ∀ H', Same H H' → Q .non H'
abbrev N_check_listed : List Str := ["value", "most", "last", "index", "size"]
theorem sc_check_listed : FnScope N_check_listed ["value", "most"] (defScope (top 85)) := ⟨rfl, rfl, rfl, by decide +kernel, rfl, by decide +kernel, by decide +kernel⟩
theorem F_check_listed (T : TX w K mg) : Fn P w K mg base 3 "check_listed" (spCheckListed K) := by
  obtain ⟨fd, F⟩ := T.fi 31
  have nd := sc_check_listed.nd
  have F_within_values := F_within (P := P) (base := base) T
  refine ⟨_, raw0 F sc_check_listed (fun vs H Q E h => ?_) (fun _ _ _ _ _ _ us hl => match us, hl with | [_, _], _ => rfl) (fun cdv A outer s H vs Q E hr h => ?_), T.g "check_listed", F.kp⟩
  · obtain ⟨t, xs, m, rfl, ht, ok, hlen, k⟩ := h
    rfl
  · obtain ⟨t, xs, m, rfl, ht, ok, hlen, k⟩ := h
    refine ⟨_, (pss_cons (ps_if (pt_not (pt_val (pe_callB call_isi (by rfl) (T.z "isinstance") (by decide +kernel) (pa_cons (pv 0) (pa_cons (pe_ty (n := "tuple") (by rfl) (T.z "tuple") (by decide +kernel)) pa_nil))))) (pss_one (ps_never)) pss_nil)
    (pss_cons (ps_set (i := 2) nd rfl (Or.inl rfl) (pe_int))
    (pss_one (ps_for PassesOwn.never rfl (pi_enumT (by rfl) (T.z "enumerate") (pa_cons (pv 0) pa_nil)) (pg_tup (n := 2) rfl (pgs_cons (pg_name (i := 3) nd rfl (Or.inl rfl)) (pgs_cons (pg_name (i := 4) nd rfl (Or.inl rfl)) pgs_nil))) (pss_cons (ps_if (pt_not (pt_val (pe_f F_within_values hr (pa_cons (pv 4) (pa_cons (pe_op op_add (pv 2) (pe_int)) (pa_cons (pv 1) pa_nil)))))) (pss_one (ps_never)) pss_nil)
    (pss_one (ps_set (i := 2) nd rfl (Or.inl rfl) (pv 4)))))))), ?_⟩
    refine seqG fun R hR => ?_
    simp only [tSeq, tRet, tRetN, tAsg, tIf, tIfS, tNext, tTest, tB, cx_K, cx_w, cx_nK, cx_nw, tOp, tUn, tVar, tC, tCons, tNil, tTup, tLst, tF, tM1, tCB, tAnd, tOr, tNot, tAndV, tOrV, tNotV, tChain, tFld, tPart, tNoPart, tSl, rU, rI0, rI, rEq, rNe, rIxD, rIxL, rIxT, rLen, rIsi, rLenQ, rTupOf, rIn, rSlL, rNewStrs, rAppend, rCat, gUnl, tDrop, wipe, List.foldl_cons, List.foldl_nil, StX.tMakeR, sFld, tLenSetN, tDictZip, rIndex, rSorted, rSortedT, rSetOfT, tPar, tPar3, tBM, rSum, rAll, rAny, tNever, gName, gTup, gCons, gNil, L2.start, List.map_cons, List.map_nil, List.length_cons, List.length_nil, List.cons_append, List.nil_append, List.set_cons_zero, List.set_cons_succ, List.getElem?_cons_zero, List.getElem?_cons_succ, Option.some.injEq, V.int.injEq, V.str.injEq, V.bl.injEq, V.ref.injEq, V.ty.injEq, List.cons.injEq, exists_and_left, exists_and_right, exists_eq_left, exists_eq_left', exists_eq, exists_eq', and_true, true_and, exists_const, List.replicate, Nat.sub_self, Nat.reduceAdd, Nat.reduceSub, if_true, if_false, Bool.false_eq_true, ite_true, ite_false, reduceIte]
    refine ⟨_, _, ⟨rfl, rfl⟩, _, _, .ty _, tyT ht, _, k_tt, iteF ?_⟩
    rw [hR]; clear hR R
    refine seqG fun R hR => ?_
    simp only [tSeq, tRet, tRetN, tAsg, tIf, tIfS, tNext, tTest, tB, cx_K, cx_w, cx_nK, cx_nw, tOp, tUn, tVar, tC, tCons, tNil, tTup, tLst, tF, tM1, tCB, tAnd, tOr, tNot, tAndV, tOrV, tNotV, tChain, tFld, tPart, tNoPart, tSl, rU, rI0, rI, rEq, rNe, rIxD, rIxL, rIxT, rLen, rIsi, rLenQ, rTupOf, rIn, rSlL, rNewStrs, rAppend, rCat, gUnl, tDrop, wipe, List.foldl_cons, List.foldl_nil, StX.tMakeR, sFld, tLenSetN, tDictZip, rIndex, rSorted, rSortedT, rSetOfT, tPar, tPar3, tBM, rSum, rAll, rAny, tNever, gName, gTup, gCons, gNil, L2.start, List.map_cons, List.map_nil, List.length_cons, List.length_nil, List.cons_append, List.nil_append, List.set_cons_zero, List.set_cons_succ, List.getElem?_cons_zero, List.getElem?_cons_succ, Option.some.injEq, V.int.injEq, V.str.injEq, V.bl.injEq, V.ref.injEq, V.ty.injEq, List.cons.injEq, exists_and_left, exists_and_right, exists_eq_left, exists_eq_left', exists_eq, exists_eq', and_true, true_and, exists_const, List.replicate, Nat.sub_self, Nat.reduceAdd, Nat.reduceSub, if_true, if_false, Bool.false_eq_true, ite_true, ite_false, reduceIte]
    rw [hR]; clear hR R
    obtain ⟨Pz, hPz⟩ : ∃ Pz : Nat → L2.St → Hp → Prop, Pz = fun b σ HC => ∃ (o5 o6 : Option V), σ = [some (V.ref t), some (V.int m), some (V.int (if b = 0 then 0 else xs.getD (b - 1) 0)), o5, o6] ∧ Same H HC := ⟨_, rfl⟩
    refine ⟨_, rfl, t, _, rfl, ht, for_it (walk_enumT (xs := xs.map V.int)) Pz (by rw [hPz]; exact ⟨_, _, rfl, Same.refl H⟩) (fun b σ HC _ pC => ?_) (fun b y σC HC HD hb pC yC => ?_) (fun σC HC pC => ?_)⟩
    · rw [hPz] at pC
      obtain ⟨_, _, _, sC⟩ := pC
      exact Same.tup sC ht
    · rw [hPz] at pC
      obtain ⟨_, _, rfl, sC⟩ := pC
      rw [List.length_map] at hb
      obtain ⟨q, y1, y2, rfl, hq, rfl, hy1, hy2⟩ := yC
      cases hy1
      have hy2 : (xs.map V.int)[b]? = some y2 := hy2
      rw [List.getElem?_map] at hy2
      obtain ⟨z, hz, rfl⟩ := Option.map_eq_some_iff.mp hy2
      have ez : xs.getD b 0 = z := by rw [List.getD_eq_getElem?_getD, hz]; rfl
      obtain ⟨k1, k2⟩ := ok b hb
      rw [ez] at k1 k2
      have st : Same HC (upd HC q (.tup [V.int (b : Nat), V.int z])) := Same.upd (Same.refl HC) hq
      have et : (upd HC q (.tup [V.int (b : Nat), V.int z])) q = some (.tup [V.int (b : Nat), V.int z]) := upd_same
      refine ⟨_, _, rfl, .of et, rfl, _, _, rfl, _, _, rfl, rfl, ?_⟩
      generalize upd HC q (.tup [V.int (b : Nat), V.int z]) = HT at st et ⊢
      refine seqG fun R hR => ?_
      simp only [tSeq, tRet, tRetN, tAsg, tIf, tIfS, tNext, tTest, tB, cx_K, cx_w, cx_nK, cx_nw, tOp, tUn, tVar, tC, tCons, tNil, tTup, tLst, tF, tM1, tCB, tAnd, tOr, tNot, tAndV, tOrV, tNotV, tChain, tFld, tPart, tNoPart, tSl, rU, rI0, rI, rEq, rNe, rIxD, rIxL, rIxT, rLen, rIsi, rLenQ, rTupOf, rIn, rSlL, rNewStrs, rAppend, rCat, gUnl, tDrop, wipe, List.foldl_cons, List.foldl_nil, StX.tMakeR, sFld, tLenSetN, tDictZip, rIndex, rSorted, rSortedT, rSetOfT, tPar, tPar3, tBM, rSum, rAll, rAny, tNever, gName, gTup, gCons, gNil, L2.start, List.map_cons, List.map_nil, List.length_cons, List.length_nil, List.cons_append, List.nil_append, List.set_cons_zero, List.set_cons_succ, List.getElem?_cons_zero, List.getElem?_cons_succ, Option.some.injEq, V.int.injEq, V.str.injEq, V.bl.injEq, V.ref.injEq, V.ty.injEq, List.cons.injEq, exists_and_left, exists_and_right, exists_eq_left, exists_eq_left', exists_eq, exists_eq', and_true, true_and, exists_const, List.replicate, Nat.sub_self, Nat.reduceAdd, Nat.reduceSub, if_true, if_false, Bool.false_eq_true, ite_true, ite_false, reduceIte]
      refine ⟨_, _, _, rfl, ?_⟩
      rw [decide_eq_true k1, decide_eq_true k2]
      refine ⟨_, rfl, iteF ?_⟩
      rw [hR]; clear hR R
      simp only [tSeq, tRet, tRetN, tAsg, tIf, tIfS, tNext, tTest, tB, cx_K, cx_w, cx_nK, cx_nw, tOp, tUn, tVar, tC, tCons, tNil, tTup, tLst, tF, tM1, tCB, tAnd, tOr, tNot, tAndV, tOrV, tNotV, tChain, tFld, tPart, tNoPart, tSl, rU, rI0, rI, rEq, rNe, rIxD, rIxL, rIxT, rLen, rIsi, rLenQ, rTupOf, rIn, rSlL, rNewStrs, rAppend, rCat, gUnl, tDrop, wipe, List.foldl_cons, List.foldl_nil, StX.tMakeR, sFld, tLenSetN, tDictZip, rIndex, rSorted, rSortedT, rSetOfT, tPar, tPar3, tBM, rSum, rAll, rAny, tNever, gName, gTup, gCons, gNil, L2.start, List.map_cons, List.map_nil, List.length_cons, List.length_nil, List.cons_append, List.nil_append, List.set_cons_zero, List.set_cons_succ, List.getElem?_cons_zero, List.getElem?_cons_succ, Option.some.injEq, V.int.injEq, V.str.injEq, V.bl.injEq, V.ref.injEq, V.ty.injEq, List.cons.injEq, exists_and_left, exists_and_right, exists_eq_left, exists_eq_left', exists_eq, exists_eq', and_true, true_and, exists_const, List.replicate, Nat.sub_self, Nat.reduceAdd, Nat.reduceSub, if_true, if_false, Bool.false_eq_true, ite_true, ite_false, reduceIte]
      rw [hPz]
      refine ⟨some (.int b), some (.int z), ?_, sC.trans st⟩
      rw [if_neg (by omega), Nat.add_sub_cancel, ez]
    · rw [hPz] at pC
      obtain ⟨_, _, rfl, sC⟩ := pC
      exact k _ sC
theorem int_mod (n : Int) : n.fmod 2 = n % 2 := (Int.fmod_eq_emod_of_nonneg n (by decide))
def spCheckTail : Sp := fun vs H Q _ => ∃ (b : Option Int) (r m : Int), vs = [ovV b, .int r, .int m] ∧ okTail b r m ∧ Q .non H
abbrev N_check_tail : List Str := ["value", "rest", "most"]
theorem sc_check_tail : FnScope N_check_tail ["value", "rest", "most"] (defScope (top 86)) := ⟨rfl, rfl, rfl, by decide +kernel, rfl, by decide +kernel, by decide +kernel⟩
theorem F_check_tail (T : TX w K mg) : Fn P w K mg base 3 "check_tail" (spCheckTail) := by
  obtain ⟨fd, F⟩ := T.fi 32
  have nd := sc_check_tail.nd
  have F_within_values := F_within (P := P) (base := base) T
  refine ⟨_, raw0 F sc_check_tail (fun vs H Q E h => ?_) (fun _ _ _ _ _ _ us hl => match us, hl with | [_, _, _], _ => rfl) (fun cdv A outer s H vs Q E hr h => ?_), T.g "check_tail", F.kp⟩
  · obtain ⟨b, r, m, rfl, ok, k⟩ := h
    rfl
  · obtain ⟨b, r, m, rfl, ok, k⟩ := h
    refine ⟨_, (pss_one (ps_if (PW.pt (pw_and (pt_cmpR op_notN (pv 0) pe_non (nomark _)) (pw_and1 (pt_not (PW.pt (pw_and (pt_val (pe_f F_within_values hr (pa_cons (pv 0) (pa_cons (pe_int) (pa_cons (pv 2) pa_nil))))) (pw_and1 (pt_cmpR op_eq (pe_op op_modN (pe_callTy call_int1 (by rfl) (T.z "int") (by decide +kernel) (pa_cons (pv 0) pa_nil)) (pe_int)) (pv 1) (nomark _))))))))) (pss_one (ps_never)) pss_nil)), ?_⟩
    cases b with
    | none =>
      simp only [tSeq, tRet, tRetN, tAsg, tIf, tIfS, tNext, tTest, tB, cx_K, cx_w, cx_nK, cx_nw, tOp, tUn, tVar, tC, tCons, tNil, tTup, tLst, tF, tM1, tCB, tAnd, tOr, tNot, tAndV, tOrV, tNotV, tChain, tFld, tPart, tNoPart, tSl, rU, rI0, rI, rEq, rNe, rIxD, rIxL, rIxT, rLen, rIsi, rLenQ, rTupOf, rIn, rSlL, rNewStrs, rAppend, rCat, gUnl, tDrop, wipe, List.foldl_cons, List.foldl_nil, StX.tMakeR, sFld, tLenSetN, tDictZip, rIndex, rSorted, rSortedT, rSetOfT, tPar, tPar3, tBM, rSum, rAll, rAny, tNever, gName, gTup, gCons, gNil, L2.start, List.map_cons, List.map_nil, List.length_cons, List.length_nil, List.cons_append, List.nil_append, List.set_cons_zero, List.set_cons_succ, List.getElem?_cons_zero, List.getElem?_cons_succ, Option.some.injEq, V.int.injEq, V.str.injEq, V.bl.injEq, V.ref.injEq, V.ty.injEq, List.cons.injEq, exists_and_left, exists_and_right, exists_eq_left, exists_eq_left', exists_eq, exists_eq', and_true, true_and, exists_const, List.replicate, Nat.sub_self, Nat.reduceAdd, Nat.reduceSub, if_true, if_false, Bool.false_eq_true, ite_true, ite_false, reduceIte]
      exact iteF k
    | some v =>
      obtain ⟨k1, k2, k3⟩ := ok v rfl
      simp only [tSeq, tRet, tRetN, tAsg, tIf, tIfS, tNext, tTest, tB, cx_K, cx_w, cx_nK, cx_nw, tOp, tUn, tVar, tC, tCons, tNil, tTup, tLst, tF, tM1, tCB, tAnd, tOr, tNot, tAndV, tOrV, tNotV, tChain, tFld, tPart, tNoPart, tSl, rU, rI0, rI, rEq, rNe, rIxD, rIxL, rIxT, rLen, rIsi, rLenQ, rTupOf, rIn, rSlL, rNewStrs, rAppend, rCat, gUnl, tDrop, wipe, List.foldl_cons, List.foldl_nil, StX.tMakeR, sFld, tLenSetN, tDictZip, rIndex, rSorted, rSortedT, rSetOfT, tPar, tPar3, tBM, rSum, rAll, rAny, tNever, gName, gTup, gCons, gNil, L2.start, List.map_cons, List.map_nil, List.length_cons, List.length_nil, List.cons_append, List.nil_append, List.set_cons_zero, List.set_cons_succ, List.getElem?_cons_zero, List.getElem?_cons_succ, Option.some.injEq, V.int.injEq, V.str.injEq, V.bl.injEq, V.ref.injEq, V.ty.injEq, List.cons.injEq, exists_and_left, exists_and_right, exists_eq_left, exists_eq_left', exists_eq, exists_eq', and_true, true_and, exists_const, List.replicate, Nat.sub_self, Nat.reduceAdd, Nat.reduceSub, if_true, if_false, Bool.false_eq_true, ite_true, ite_false, reduceIte]
      refine iteT ⟨_, _, _, rfl, _, rfl, ?_⟩
      rw [decide_eq_true k1, decide_eq_true k2]
      refine iteT (.inl ⟨_, rfl, by decide, rfl, ?_⟩)
      rw [int_mod, decide_eq_true k3]
      exact iteF k
theorem inV_ints {x : Int} {xs : List Int} : inV (.int x) (xs.map V.int) = decide (x ∈ xs) := by
  unfold inV
  rw [List.any_map]
  induction xs with
  | nil => rfl
  | cons y ys ih =>
    rw [List.any_cons, ih]
    show (decide (y = x) || _) = _
    by_cases h : y = x
    · simp [h]
    · have : ¬ x = y := fun e => h e.symm
      simp [h, this]
theorem flat_ints (xs : List Int) : (xs.map V.int).all flatV = true := by
  rw [List.all_eq_true]
  intro x hx
  obtain ⟨i, _, rfl⟩ := List.mem_map.mp hx
  rfl
def spTailFrom (K : PySem.W.Frag) : Sp := fun vs H Q _ => ∃ (t : Addr) (xs : List Int) (b : Option Int), vs = [.ref t, ovV b] ∧ SqT K H t (xs.map V.int) ∧ Q (ovV (tailOf xs b)) H
abbrev N_tail_from : List Str := ["listed", "begin"]
theorem sc_tail_from : FnScope N_tail_from ["listed", "begin"] (defScope (top 87)) := ⟨rfl, rfl, rfl, by decide +kernel, rfl, by decide +kernel, by decide +kernel⟩
theorem F_tail_from (T : TX w K mg) : Fn P w K mg base 1 "tail_from" (spTailFrom K) := by
  obtain ⟨fd, F⟩ := T.fi 33
  have nd := sc_tail_from.nd
  refine ⟨_, raw0 F sc_tail_from (fun vs H Q E h => ?_) (fun _ _ _ _ _ _ us hl => match us, hl with | [_, _], _ => rfl) (fun cdv A outer s H vs Q E hr h => ?_), T.g "tail_from", F.kp⟩
  · obtain ⟨t, xs, b, rfl, ht, k⟩ := h
    rfl
  · obtain ⟨t, xs, b, rfl, ht, k⟩ := h
    refine ⟨_, (pss_cons (ps_while PassesOwn.never (PW.pt (pw_and (pt_cmpR op_notN (pv 1) pe_non (nomark _)) (pw_and1 (pt_cmpR op_in_seq (pe_op op_sub (pv 1) (pe_int)) (pv 0) (by rfl))))) (pss_one (ps_set (i := 1) nd rfl (Or.inl rfl) (pe_op op_sub (pv 1) (pe_int)))))
    (pss_one (ps_ret (pv 1)))), ?_⟩
    refine seqG fun R hR => ?_
    cases b with
    | none =>
      refine ⟨fun m σ HC => σ = [some (.ref t), some .non] ∧ HC = H, ⟨0, rfl, rfl⟩, ?_⟩
      rintro m σ HC ⟨rfl, rfl⟩
      simp only [tSeq, tRet, tRetN, tAsg, tIf, tIfS, tNext, tTest, tB, cx_K, cx_w, cx_nK, cx_nw, tOp, tUn, tVar, tC, tCons, tNil, tTup, tLst, tF, tM1, tCB, tAnd, tOr, tNot, tAndV, tOrV, tNotV, tChain, tFld, tPart, tNoPart, tSl, rU, rI0, rI, rEq, rNe, rIxD, rIxL, rIxT, rLen, rIsi, rLenQ, rTupOf, rIn, rSlL, rNewStrs, rAppend, rCat, gUnl, tDrop, wipe, List.foldl_cons, List.foldl_nil, StX.tMakeR, sFld, tLenSetN, tDictZip, rIndex, rSorted, rSortedT, rSetOfT, tPar, tPar3, tBM, rSum, rAll, rAny, tNever, gName, gTup, gCons, gNil, L2.start, List.map_cons, List.map_nil, List.length_cons, List.length_nil, List.cons_append, List.nil_append, List.set_cons_zero, List.set_cons_succ, List.getElem?_cons_zero, List.getElem?_cons_succ, Option.some.injEq, V.int.injEq, V.str.injEq, V.bl.injEq, V.ref.injEq, V.ty.injEq, List.cons.injEq, exists_and_left, exists_and_right, exists_eq_left, exists_eq_left', exists_eq, exists_eq', and_true, true_and, exists_const, List.replicate, Nat.sub_self, Nat.reduceAdd, Nat.reduceSub, if_true, if_false, Bool.false_eq_true, ite_true, ite_false, reduceIte]
      refine iteF ?_
      rw [hR]; clear hR R
      simp only [tSeq, tRet, tRetN, tAsg, tIf, tIfS, tNext, tTest, tB, cx_K, cx_w, cx_nK, cx_nw, tOp, tUn, tVar, tC, tCons, tNil, tTup, tLst, tF, tM1, tCB, tAnd, tOr, tNot, tAndV, tOrV, tNotV, tChain, tFld, tPart, tNoPart, tSl, rU, rI0, rI, rEq, rNe, rIxD, rIxL, rIxT, rLen, rIsi, rLenQ, rTupOf, rIn, rSlL, rNewStrs, rAppend, rCat, gUnl, tDrop, wipe, List.foldl_cons, List.foldl_nil, StX.tMakeR, sFld, tLenSetN, tDictZip, rIndex, rSorted, rSortedT, rSetOfT, tPar, tPar3, tBM, rSum, rAll, rAny, tNever, gName, gTup, gCons, gNil, L2.start, List.map_cons, List.map_nil, List.length_cons, List.length_nil, List.cons_append, List.nil_append, List.set_cons_zero, List.set_cons_succ, List.getElem?_cons_zero, List.getElem?_cons_succ, Option.some.injEq, V.int.injEq, V.str.injEq, V.bl.injEq, V.ref.injEq, V.ty.injEq, List.cons.injEq, exists_and_left, exists_and_right, exists_eq_left, exists_eq_left', exists_eq, exists_eq', and_true, true_and, exists_const, List.replicate, Nat.sub_self, Nat.reduceAdd, Nat.reduceSub, if_true, if_false, Bool.false_eq_true, ite_true, ite_false, reduceIte]
      exact k
    | some v =>
      refine ⟨fun m σ HC => ∃ b : Int, σ = [some (.ref t), some (.int b)] ∧ HC = H ∧ (xs.filter fun x => decide (x < b)).length ≤ m ∧ tailFuel m xs b = tailFuel xs.length xs v, ⟨xs.length, v, rfl, rfl, List.length_filter_le .., rfl⟩, ?_⟩
      rintro m σ HC ⟨b, rfl, rfl, hm, e⟩
      simp only [tSeq, tRet, tRetN, tAsg, tIf, tIfS, tNext, tTest, tB, cx_K, cx_w, cx_nK, cx_nw, tOp, tUn, tVar, tC, tCons, tNil, tTup, tLst, tF, tM1, tCB, tAnd, tOr, tNot, tAndV, tOrV, tNotV, tChain, tFld, tPart, tNoPart, tSl, rU, rI0, rI, rEq, rNe, rIxD, rIxL, rIxT, rLen, rIsi, rLenQ, rTupOf, rIn, rSlL, rNewStrs, rAppend, rCat, gUnl, tDrop, wipe, List.foldl_cons, List.foldl_nil, StX.tMakeR, sFld, tLenSetN, tDictZip, rIndex, rSorted, rSortedT, rSetOfT, tPar, tPar3, tBM, rSum, rAll, rAny, tNever, gName, gTup, gCons, gNil, L2.start, List.map_cons, List.map_nil, List.length_cons, List.length_nil, List.cons_append, List.nil_append, List.set_cons_zero, List.set_cons_succ, List.getElem?_cons_zero, List.getElem?_cons_succ, Option.some.injEq, V.int.injEq, V.str.injEq, V.bl.injEq, V.ref.injEq, V.ty.injEq, List.cons.injEq, exists_and_left, exists_and_right, exists_eq_left, exists_eq_left', exists_eq, exists_eq', and_true, true_and, exists_const, List.replicate, Nat.sub_self, Nat.reduceAdd, Nat.reduceSub, if_true, if_false, Bool.false_eq_true, ite_true, ite_false, reduceIte]
      refine iteT ⟨xs.map V.int, .inr ht, rfl, flat_ints xs, ?_⟩
      rw [inV_ints]
      by_cases hb : b - 2 ∈ xs
      · rw [decide_eq_true hb]
        refine iteT ⟨fun σ' H' => ∃ m', m' < m ∧ ∃ b : Int, σ' = [some (.ref t), some (.int b)] ∧ H' = HC ∧ (xs.filter fun x => decide (x < b)).length ≤ m' ∧ tailFuel m' xs b = tailFuel xs.length xs v, fun σ' H' h => h, ?_⟩
        have := below_lt hb
        rcases m with _ | m
        · omega
        rw [tailFuel, if_pos hb] at e
        exact ⟨m, Nat.lt_succ_self _, b - 2, rfl, rfl, by omega, e⟩
      · rw [decide_eq_false hb]
        rw [tailFuel_no hb] at e
        refine iteF ?_
        rw [hR]; clear hR R
        simp only [tSeq, tRet, tRetN, tAsg, tIf, tIfS, tNext, tTest, tB, cx_K, cx_w, cx_nK, cx_nw, tOp, tUn, tVar, tC, tCons, tNil, tTup, tLst, tF, tM1, tCB, tAnd, tOr, tNot, tAndV, tOrV, tNotV, tChain, tFld, tPart, tNoPart, tSl, rU, rI0, rI, rEq, rNe, rIxD, rIxL, rIxT, rLen, rIsi, rLenQ, rTupOf, rIn, rSlL, rNewStrs, rAppend, rCat, gUnl, tDrop, wipe, List.foldl_cons, List.foldl_nil, StX.tMakeR, sFld, tLenSetN, tDictZip, rIndex, rSorted, rSortedT, rSetOfT, tPar, tPar3, tBM, rSum, rAll, rAny, tNever, gName, gTup, gCons, gNil, L2.start, List.map_cons, List.map_nil, List.length_cons, List.length_nil, List.cons_append, List.nil_append, List.set_cons_zero, List.set_cons_succ, List.getElem?_cons_zero, List.getElem?_cons_succ, Option.some.injEq, V.int.injEq, V.str.injEq, V.bl.injEq, V.ref.injEq, V.ty.injEq, List.cons.injEq, exists_and_left, exists_and_right, exists_eq_left, exists_eq_left', exists_eq, exists_eq', and_true, true_and, exists_const, List.replicate, Nat.sub_self, Nat.reduceAdd, Nat.reduceSub, if_true, if_false, Bool.false_eq_true, ite_true, ite_false, reduceIte]
        rw [e]
        exact k
def spGoesOn (K : PySem.W.Frag) : Sp := fun vs H Q _ => ∃ (t : Addr) (e o : Option Int) (n : Int), vs = [.ref t, .int n] ∧ SqT K H t [ovV e, ovV o] ∧ Q (.bl (goesOn e o n)) H
abbrev N_goes_on : List Str := ["tails", "size", "begin"]
theorem sc_goes_on : FnScope N_goes_on ["tails", "size"] (defScope (top 88)) := ⟨rfl, rfl, rfl, by decide +kernel, rfl, by decide +kernel, by decide +kernel⟩
theorem F_goes_on (T : TX w K mg) : Fn P w K mg base 1 "goes_on" (spGoesOn K) := by
  obtain ⟨fd, F⟩ := T.fi 34
  have nd := sc_goes_on.nd
  refine ⟨_, raw0 F sc_goes_on (fun vs H Q E h => ?_) (fun _ _ _ _ _ _ us hl => match us, hl with | [_, _], _ => rfl) (fun cdv A outer s H vs Q E hr h => ?_), T.g "goes_on", F.kp⟩
  · obtain ⟨t, e, o, n, rfl, ht, k⟩ := h
    rfl
  · obtain ⟨t, e, o, n, rfl, ht, k⟩ := h
    refine ⟨_, (pss_cons (ps_set (i := 2) nd rfl (Or.inl rfl) (pe_ix ix_tup (pv 0) (pe_op op_modN (pe_callTy call_int1 (by rfl) (T.z "int") (by decide +kernel) (pa_cons (pv 1) pa_nil)) (pe_int)) (fun _ _ => rfl)))
    (pss_one (ps_ret (pe_and (pe_cmpR op_notN (pv 2) pe_non (nomark _)) (pe_one (pe_cmpR op_le (pv 2) (pv 1) (nomark _))))))), ?_⟩
    refine seqG fun R hR => ?_
    simp only [tSeq, tRet, tRetN, tAsg, tIf, tIfS, tNext, tTest, tB, cx_K, cx_w, cx_nK, cx_nw, tOp, tUn, tVar, tC, tCons, tNil, tTup, tLst, tF, tM1, tCB, tAnd, tOr, tNot, tAndV, tOrV, tNotV, tChain, tFld, tPart, tNoPart, tSl, rU, rI0, rI, rEq, rNe, rIxD, rIxL, rIxT, rLen, rIsi, rLenQ, rTupOf, rIn, rSlL, rNewStrs, rAppend, rCat, gUnl, tDrop, wipe, List.foldl_cons, List.foldl_nil, StX.tMakeR, sFld, tLenSetN, tDictZip, rIndex, rSorted, rSortedT, rSetOfT, tPar, tPar3, tBM, rSum, rAll, rAny, tNever, gName, gTup, gCons, gNil, L2.start, List.map_cons, List.map_nil, List.length_cons, List.length_nil, List.cons_append, List.nil_append, List.set_cons_zero, List.set_cons_succ, List.getElem?_cons_zero, List.getElem?_cons_succ, Option.some.injEq, V.int.injEq, V.str.injEq, V.bl.injEq, V.ref.injEq, V.ty.injEq, List.cons.injEq, exists_and_left, exists_and_right, exists_eq_left, exists_eq_left', exists_eq, exists_eq', and_true, true_and, exists_const, List.replicate, Nat.sub_self, Nat.reduceAdd, Nat.reduceSub, if_true, if_false, Bool.false_eq_true, ite_true, ite_false, reduceIte]
    have key : ∀ x : Option Int, (x = if n % 2 = 0 then e else o) → R [some (.ref t), some (.int n), some (ovV x)] H := by
      intro x hx
      rw [hR]; clear hR R
      unfold goesOn at k
      rw [← hx] at k
      cases x with
      | none => 
        simp only [tSeq, tRet, tRetN, tAsg, tIf, tIfS, tNext, tTest, tB, cx_K, cx_w, cx_nK, cx_nw, tOp, tUn, tVar, tC, tCons, tNil, tTup, tLst, tF, tM1, tCB, tAnd, tOr, tNot, tAndV, tOrV, tNotV, tChain, tFld, tPart, tNoPart, tSl, rU, rI0, rI, rEq, rNe, rIxD, rIxL, rIxT, rLen, rIsi, rLenQ, rTupOf, rIn, rSlL, rNewStrs, rAppend, rCat, gUnl, tDrop, wipe, List.foldl_cons, List.foldl_nil, StX.tMakeR, sFld, tLenSetN, tDictZip, rIndex, rSorted, rSortedT, rSetOfT, tPar, tPar3, tBM, rSum, rAll, rAny, tNever, gName, gTup, gCons, gNil, L2.start, List.map_cons, List.map_nil, List.length_cons, List.length_nil, List.cons_append, List.nil_append, List.set_cons_zero, List.set_cons_succ, List.getElem?_cons_zero, List.getElem?_cons_succ, Option.some.injEq, V.int.injEq, V.str.injEq, V.bl.injEq, V.ref.injEq, V.ty.injEq, List.cons.injEq, exists_and_left, exists_and_right, exists_eq_left, exists_eq_left', exists_eq, exists_eq', and_true, true_and, exists_const, List.replicate, Nat.sub_self, Nat.reduceAdd, Nat.reduceSub, if_true, if_false, Bool.false_eq_true, ite_true, ite_false, reduceIte]
        exact iteF k
      | some b =>
        simp only [tSeq, tRet, tRetN, tAsg, tIf, tIfS, tNext, tTest, tB, cx_K, cx_w, cx_nK, cx_nw, tOp, tUn, tVar, tC, tCons, tNil, tTup, tLst, tF, tM1, tCB, tAnd, tOr, tNot, tAndV, tOrV, tNotV, tChain, tFld, tPart, tNoPart, tSl, rU, rI0, rI, rEq, rNe, rIxD, rIxL, rIxT, rLen, rIsi, rLenQ, rTupOf, rIn, rSlL, rNewStrs, rAppend, rCat, gUnl, tDrop, wipe, List.foldl_cons, List.foldl_nil, StX.tMakeR, sFld, tLenSetN, tDictZip, rIndex, rSorted, rSortedT, rSetOfT, tPar, tPar3, tBM, rSum, rAll, rAny, tNever, gName, gTup, gCons, gNil, L2.start, List.map_cons, List.map_nil, List.length_cons, List.length_nil, List.cons_append, List.nil_append, List.set_cons_zero, List.set_cons_succ, List.getElem?_cons_zero, List.getElem?_cons_succ, Option.some.injEq, V.int.injEq, V.str.injEq, V.bl.injEq, V.ref.injEq, V.ty.injEq, List.cons.injEq, exists_and_left, exists_and_right, exists_eq_left, exists_eq_left', exists_eq, exists_eq', and_true, true_and, exists_const, List.replicate, Nat.sub_self, Nat.reduceAdd, Nat.reduceSub, if_true, if_false, Bool.false_eq_true, ite_true, ite_false, reduceIte]
        exact iteT ⟨_, rfl, k⟩
    rw [int_mod]
    rcases (show n % 2 = 0 ∨ n % 2 = 1 by omega) with h | h
    · exact .inl ⟨by decide, _, ht, ovV e, by rw [h]; rfl, key e (by rw [if_pos h])⟩
    · exact .inl ⟨by decide, _, ht, ovV o, by rw [h]; rfl, key o (by rw [if_neg (by omega)])⟩
def SizesAt (K : PySem.W.Frag) (H : Hp) (a : Addr) (few : List Int) (e o : Option Int) : Prop := ∃ dx t f, H a = some (.ins (ga K "Sizes") dx [("tails", .ref t), ("few", .ref f)]) ∧ SqT K H t [ovV e, ovV o] ∧ SqT K H f (few.map V.int)
theorem SizesAt.same {H H' : Hp} {a : Addr} {few : List Int} {e o : Option Int} (h : SizesAt K H a few e o) (s : Same H H') : SizesAt K H' a few e o := by
  obtain ⟨dx, t, f, h1, h2, h3⟩ := h
  exact ⟨dx, t, f, s _ _ h1, Same.tup s h2, Same.tup s h3⟩
theorem range_get (xs : List Int) : (List.range xs.length).map (fun i => xs.getD i 0) = xs := by
  refine List.ext_getElem? fun i => ?_
  rw [List.getElem?_map]
  by_cases h : i < xs.length
  · rw [List.getElem?_range h, List.getElem?_eq_getElem h]
    show some (xs.getD i 0) = _
    rw [List.getD_eq_getElem?_getD, List.getElem?_eq_getElem h]
    rfl
  · rw [List.getElem?_eq_none (l := List.range xs.length) (by rw [List.length_range]; omega), List.getElem?_eq_none (l := xs) (by omega)]
    rfl
theorem filter_get {β : Type} (p : Int → Bool) (f : Int → β) (xs : List Int) : ((List.range xs.length).filter fun i => p (xs.getD i 0)).map (fun i => f (xs.getD i 0)) = (xs.filter p).map f := by
  conv => rhs; rw [← range_get xs]
  rw [List.filter_map, List.map_map]
  rfl
abbrev N_Sizes_init : List Str := ["self", "listed", "even", "odd", "most", "size"]
theorem sc_Sizes_init : FnScope N_Sizes_init ["self", "listed", "even", "odd", "most"] (defScope (inClass (top 89) 0)) := ⟨rfl, rfl, rfl, by decide +kernel, rfl, by decide +kernel, by decide +kernel⟩
def spSizesInit (K : PySem.W.Frag) : Sp := fun vs H Q _ => ∃ (x dx t : Addr) (xs : List Int) (e o : Option Int) (m : Int), vs = [.ref x, .ref t, ovV e, ovV o, .int m] ∧ SqT K H t (xs.map V.int) ∧ okListed xs m ∧ xs.length ≤ 1000 ∧ okTail e 0 m ∧ okTail o 1 m ∧
  H x = some (.ins (ga K "Sizes") dx []) ∧ ∀ H', SameX x H H' → SizesAt K H' x (fewOf xs (tailOf xs e) (tailOf xs o)) (tailOf xs e) (tailOf xs o) → Q .non H'
theorem F_Sizes_init (T : TX w K mg) {fd : FuncData} (F : FunD K d_Sizes_init.name d_Sizes_init.qual d_Sizes_init.params d_Sizes_init.body d_Sizes_init.scope (d_Sizes_init.dvs K) (d_Sizes_init.kws K) (d_Sizes_init.at_ K) fd) :
    FnOk P w K mg base CX0 4 (ma K (ga K "Sizes") "__init__") fd ["self", "listed", "even", "odd", "most"] (spSizesInit K) := by
  have nd := sc_Sizes_init.nd
  have F_check_listed := F_check_listed (P := P) (base := base) T
  have F_check_tail := F_check_tail (P := P) (base := base) T
  have F_tail_from := F_tail_from (P := P) (base := base) T
  have F_goes_on := F_goes_on (P := P) (base := base) T
  refine F.ok sc_Sizes_init (fun vs H Q E h => ?_) fun cdv A outer s H vs Q E hr h => ?_
  · obtain ⟨_, _, _, _, _, _, _, rfl, _⟩ := h
    rfl
  · obtain ⟨x, dx, t, xs, e, o, m, rfl, ht, ok, hlen, oe, oo, hx, k⟩ := h
    suffices h : ∃ tt, PSs (cxOf CX0 P w K mg base N_Sizes_init d_Sizes_init.qual (defScope (inClass (top 89) 0)) (d_Sizes_init.at_ K) cdv A outer s H E).nox (defBody (inClass (top 89) 0)) tt ∧ tt { nx := fun _ H' => Q .non H', rt := Q } (L2.start N_Sizes_init [.ref x, .ref t, ovV e, ovV o, .int m]) H by
      obtain ⟨tt, a, b⟩ := h
      exact ⟨tt, a.nox, b⟩
    refine ⟨_, (pss_cons (ps_expr (pe_f F_check_listed hr (pa_cons (pv 1) (pa_cons (pv 4) pa_nil))))
    (pss_cons (ps_expr (pe_f F_check_tail hr (pa_cons (pv 2) (pa_cons (pe_int) (pa_cons (pv 4) pa_nil)))))
    (pss_cons (ps_expr (pe_f F_check_tail hr (pa_cons (pv 3) (pa_cons (pe_int) (pa_cons (pv 4) pa_nil)))))
    (pss_cons (ps_fld (pv 0) (pe_tup (pa_cons (pe_f F_tail_from hr (pa_cons (pv 1) (pa_cons (pv 2) pa_nil))) (pa_cons (pe_f F_tail_from hr (pa_cons (pv 1) (pa_cons (pv 3) pa_nil))) pa_nil))) rfl)
    (pss_one (ps_fld (pv 0) (pe_callTy call_tuple_of (by rfl) (T.z "tuple") (by decide +kernel) (pa_cons (pe_lc (own := [("size", 5)]) (g := gName 5) (by rfl) nd (pi_tup (pv 1)) (blkOk_by (own := [("size", 5)]) (N := N_Sizes_init) (sc := (defScope (inClass (top 89) 0))) (by decide +kernel)) (fun _ _ _ _ _ => (pg_name (i := 5) nd rfl (Or.inl rfl))) (fun _ _ _ _ _ => (pts_one (pt_not (pt_val (pe_f F_goes_on hr (pa_cons ((pe_fld (pv 0) rfl : PE _ _ (tFld K _ "tails"))) (pa_cons (pv 5) pa_nil))))))) (fun _ _ _ _ _ => (pv 5))) pa_nil)) rfl)))))), ?_⟩
    refine seqG fun R hR => ?_
    simp only [tSeq, tRet, tRetN, tAsg, tIf, tIfS, tNext, tTest, tB, cx_K, cx_w, cx_nK, cx_nw, tOp, tUn, tVar, tC, tCons, tNil, tTup, tLst, tF, tM1, tCB, tAnd, tOr, tNot, tAndV, tOrV, tNotV, tChain, tFld, tPart, tNoPart, tSl, rU, rI0, rI, rEq, rNe, rIxD, rIxL, rIxT, rLen, rIsi, rLenQ, rTupOf, rIn, rSlL, rNewStrs, rAppend, rCat, gUnl, tDrop, wipe, List.foldl_cons, List.foldl_nil, StX.tMakeR, sFld, tLenSetN, tDictZip, rIndex, rSorted, rSortedT, rSetOfT, tPar, tPar3, tBM, rSum, rAll, rAny, tNever, gName, gTup, gCons, gNil, L2.start, List.map_cons, List.map_nil, List.length_cons, List.length_nil, List.cons_append, List.nil_append, List.set_cons_zero, List.set_cons_succ, List.getElem?_cons_zero, List.getElem?_cons_succ, Option.some.injEq, V.int.injEq, V.str.injEq, V.bl.injEq, V.ref.injEq, V.ty.injEq, List.cons.injEq, exists_and_left, exists_and_right, exists_eq_left, exists_eq_left', exists_eq, exists_eq', and_true, true_and, exists_const, List.replicate, Nat.sub_self, Nat.reduceAdd, Nat.reduceSub, if_true, if_false, Bool.false_eq_true, ite_true, ite_false, reduceIte]
    refine ⟨_, _, _, rfl, ht, ok, hlen, fun H1 s1 => ?_⟩
    rw [hR]; clear hR R
    refine seqG fun R hR => ?_
    simp only [tSeq, tRet, tRetN, tAsg, tIf, tIfS, tNext, tTest, tB, cx_K, cx_w, cx_nK, cx_nw, tOp, tUn, tVar, tC, tCons, tNil, tTup, tLst, tF, tM1, tCB, tAnd, tOr, tNot, tAndV, tOrV, tNotV, tChain, tFld, tPart, tNoPart, tSl, rU, rI0, rI, rEq, rNe, rIxD, rIxL, rIxT, rLen, rIsi, rLenQ, rTupOf, rIn, rSlL, rNewStrs, rAppend, rCat, gUnl, tDrop, wipe, List.foldl_cons, List.foldl_nil, StX.tMakeR, sFld, tLenSetN, tDictZip, rIndex, rSorted, rSortedT, rSetOfT, tPar, tPar3, tBM, rSum, rAll, rAny, tNever, gName, gTup, gCons, gNil, L2.start, List.map_cons, List.map_nil, List.length_cons, List.length_nil, List.cons_append, List.nil_append, List.set_cons_zero, List.set_cons_succ, List.getElem?_cons_zero, List.getElem?_cons_succ, Option.some.injEq, V.int.injEq, V.str.injEq, V.bl.injEq, V.ref.injEq, V.ty.injEq, List.cons.injEq, exists_and_left, exists_and_right, exists_eq_left, exists_eq_left', exists_eq, exists_eq', and_true, true_and, exists_const, List.replicate, Nat.sub_self, Nat.reduceAdd, Nat.reduceSub, if_true, if_false, Bool.false_eq_true, ite_true, ite_false, reduceIte]
    refine ⟨_, _, _, rfl, oe, ?_⟩
    rw [hR]; clear hR R
    refine seqG fun R hR => ?_
    simp only [tSeq, tRet, tRetN, tAsg, tIf, tIfS, tNext, tTest, tB, cx_K, cx_w, cx_nK, cx_nw, tOp, tUn, tVar, tC, tCons, tNil, tTup, tLst, tF, tM1, tCB, tAnd, tOr, tNot, tAndV, tOrV, tNotV, tChain, tFld, tPart, tNoPart, tSl, rU, rI0, rI, rEq, rNe, rIxD, rIxL, rIxT, rLen, rIsi, rLenQ, rTupOf, rIn, rSlL, rNewStrs, rAppend, rCat, gUnl, tDrop, wipe, List.foldl_cons, List.foldl_nil, StX.tMakeR, sFld, tLenSetN, tDictZip, rIndex, rSorted, rSortedT, rSetOfT, tPar, tPar3, tBM, rSum, rAll, rAny, tNever, gName, gTup, gCons, gNil, L2.start, List.map_cons, List.map_nil, List.length_cons, List.length_nil, List.cons_append, List.nil_append, List.set_cons_zero, List.set_cons_succ, List.getElem?_cons_zero, List.getElem?_cons_succ, Option.some.injEq, V.int.injEq, V.str.injEq, V.bl.injEq, V.ref.injEq, V.ty.injEq, List.cons.injEq, exists_and_left, exists_and_right, exists_eq_left, exists_eq_left', exists_eq, exists_eq', and_true, true_and, exists_const, List.replicate, Nat.sub_self, Nat.reduceAdd, Nat.reduceSub, if_true, if_false, Bool.false_eq_true, ite_true, ite_false, reduceIte]
    refine ⟨_, _, _, rfl, oo, ?_⟩
    rw [hR]; clear hR R
    refine seqG fun R hR => ?_
    simp only [tSeq, tRet, tRetN, tAsg, tIf, tIfS, tNext, tTest, tB, cx_K, cx_w, cx_nK, cx_nw, tOp, tUn, tVar, tC, tCons, tNil, tTup, tLst, tF, tM1, tCB, tAnd, tOr, tNot, tAndV, tOrV, tNotV, tChain, tFld, tPart, tNoPart, tSl, rU, rI0, rI, rEq, rNe, rIxD, rIxL, rIxT, rLen, rIsi, rLenQ, rTupOf, rIn, rSlL, rNewStrs, rAppend, rCat, gUnl, tDrop, wipe, List.foldl_cons, List.foldl_nil, StX.tMakeR, sFld, tLenSetN, tDictZip, rIndex, rSorted, rSortedT, rSetOfT, tPar, tPar3, tBM, rSum, rAll, rAny, tNever, gName, gTup, gCons, gNil, L2.start, List.map_cons, List.map_nil, List.length_cons, List.length_nil, List.cons_append, List.nil_append, List.set_cons_zero, List.set_cons_succ, List.getElem?_cons_zero, List.getElem?_cons_succ, Option.some.injEq, V.int.injEq, V.str.injEq, V.bl.injEq, V.ref.injEq, V.ty.injEq, List.cons.injEq, exists_and_left, exists_and_right, exists_eq_left, exists_eq_left', exists_eq, exists_eq', and_true, true_and, exists_const, List.replicate, Nat.sub_self, Nat.reduceAdd, Nat.reduceSub, if_true, if_false, Bool.false_eq_true, ite_true, ite_false, reduceIte]
    refine ⟨_, _, _, rfl, Same.tup s1 ht, _, _, _, rfl, Same.tup s1 ht, ?_⟩
    refine ⟨by rw [sizeLine_eq]; decide, fun p hp => ?_⟩
    have sp : Same H1 (upd H1 p (.tup [ovV (tailOf xs e), ovV (tailOf xs o)])) := Same.upd (Same.refl H1) hp
    have ep : (upd H1 p (.tup [ovV (tailOf xs e), ovV (tailOf xs o)])) p = some (.tup [ovV (tailOf xs e), ovV (tailOf xs o)]) := upd_same
    generalize upd H1 p (.tup [ovV (tailOf xs e), ovV (tailOf xs o)]) = H2 at sp ep ⊢
    have hx2 := sp _ _ (s1 _ _ hx)
    have npx : p ≠ x := fun e => by rw [e, hx2] at ep; cases ep
    refine ⟨_, _, _, hx2, T.cls.2.2.2.1, T.noS.1, by show (0 : Nat) < 1000; decide, ?_⟩
    show R _ (upd H2 x (.ins (ga K "Sizes") dx [("tails", .ref p)]))
    have s3 : SameX x H (upd H2 x (.ins (ga K "Sizes") dx [("tails", .ref p)])) := (SameX.of (s1.trans sp)).trans SameX.upd
    have ex : (upd H2 x (.ins (ga K "Sizes") dx [("tails", .ref p)])) x = some (.ins (ga K "Sizes") dx [("tails", .ref p)]) := upd_same
    have ep3 : (upd H2 x (.ins (ga K "Sizes") dx [("tails", .ref p)])) p = some (.tup [ovV (tailOf xs e), ovV (tailOf xs o)]) := by rw [upd_ne npx]; exact ep
    have ht3 : SqT K (upd H2 x (.ins (ga K "Sizes") dx [("tails", .ref p)])) t (xs.map V.int) := by
      rcases ht with (h | ⟨q, h⟩) | h
      · exact .inl (.inl (s3 _ _ (fun e => by rw [e, hx] at h; cases h) h))
      · exact .inl (.inr ⟨q, s3 _ _ (fun e => by rw [e, hx] at h; cases h) h⟩)
      · exact .inr h
    generalize upd H2 x (.ins (ga K "Sizes") dx [("tails", .ref p)]) = H3 at s3 ex ep3 ht3 ⊢
    clear hx2 sp ep s1
    rw [hR]; clear hR R
    simp only [tSeq, tRet, tRetN, tAsg, tIf, tIfS, tNext, tTest, tB, cx_K, cx_w, cx_nK, cx_nw, tOp, tUn, tVar, tC, tCons, tNil, tTup, tLst, tF, tM1, tCB, tAnd, tOr, tNot, tAndV, tOrV, tNotV, tChain, tFld, tPart, tNoPart, tSl, rU, rI0, rI, rEq, rNe, rIxD, rIxL, rIxT, rLen, rIsi, rLenQ, rTupOf, rIn, rSlL, rNewStrs, rAppend, rCat, gUnl, tDrop, wipe, List.foldl_cons, List.foldl_nil, StX.tMakeR, sFld, tLenSetN, tDictZip, rIndex, rSorted, rSortedT, rSetOfT, tPar, tPar3, tBM, rSum, rAll, rAny, tNever, gName, gTup, gCons, gNil, L2.start, List.map_cons, List.map_nil, List.length_cons, List.length_nil, List.cons_append, List.nil_append, List.set_cons_zero, List.set_cons_succ, List.getElem?_cons_zero, List.getElem?_cons_succ, Option.some.injEq, V.int.injEq, V.str.injEq, V.bl.injEq, V.ref.injEq, V.ty.injEq, List.cons.injEq, exists_and_left, exists_and_right, exists_eq_left, exists_eq_left', exists_eq, exists_eq', and_true, true_and, exists_const, List.replicate, Nat.sub_self, Nat.reduceAdd, Nat.reduceSub, if_true, if_false, Bool.false_eq_true, ite_true, ite_false, reduceIte]
    refine ⟨_, rfl, t, rfl, ⟨_, ht3⟩, fun D hD => lcf walk_tup (by rw [List.length_map, sizeLine_eq]; omega) hD (fun i => V.int (xs.getD i 0)) (fun i => !goesOn (tailOf xs e) (tailOf xs o) (xs.getD i 0)) (fun H sa => Same.tup sa ht3) (fun i H x H' y => ?_) (fun i H5 Q1 Q2 hi sa5 h1 h2 => ?_) (fun H5 sa5 e5 => ?_)⟩
    · obtain ⟨rfl, hx⟩ := y
      refine ⟨rfl, ?_⟩
      rw [List.getElem?_map] at hx
      obtain ⟨z, hz, rfl⟩ := Option.map_eq_some_iff.mp hx
      rw [List.getD_eq_getElem?_getD, hz]
      rfl
    · rw [show (wipe [some (V.ref x), some (V.ref t), some (ovV e), some (ovV o), some (V.int m), none] [5]) = [some (V.ref x), some (V.ref t), some (ovV e), some (ovV o), some (V.int m), none] from rfl]
      refine ⟨rfl, ?_⟩
      simp only [tSeq, tRet, tRetN, tAsg, tIf, tIfS, tNext, tTest, tB, cx_K, cx_w, cx_nK, cx_nw, tOp, tUn, tVar, tC, tCons, tNil, tTup, tLst, tF, tM1, tCB, tAnd, tOr, tNot, tAndV, tOrV, tNotV, tChain, tFld, tPart, tNoPart, tSl, rU, rI0, rI, rEq, rNe, rIxD, rIxL, rIxT, rLen, rIsi, rLenQ, rTupOf, rIn, rSlL, rNewStrs, rAppend, rCat, gUnl, tDrop, wipe, List.foldl_cons, List.foldl_nil, StX.tMakeR, sFld, tLenSetN, tDictZip, rIndex, rSorted, rSortedT, rSetOfT, tPar, tPar3, tBM, rSum, rAll, rAny, tNever, gName, gTup, gCons, gNil, L2.start, List.map_cons, List.map_nil, List.length_cons, List.length_nil, List.cons_append, List.nil_append, List.set_cons_zero, List.set_cons_succ, List.getElem?_cons_zero, List.getElem?_cons_succ, Option.some.injEq, V.int.injEq, V.str.injEq, V.bl.injEq, V.ref.injEq, V.ty.injEq, List.cons.injEq, exists_and_left, exists_and_right, exists_eq_left, exists_eq_left', exists_eq, exists_eq', and_true, true_and, exists_const, List.replicate, Nat.sub_self, Nat.reduceAdd, Nat.reduceSub, if_true, if_false, Bool.false_eq_true, ite_true, ite_false, reduceIte]
      refine ⟨_, _, _, sa5 _ _ ex, T.cls.2.2.2.1, T.noS.1, _, rfl, _, _, _, _, rfl, .of (sa5 _ _ ep3), ?_⟩
      cases hg : goesOn (tailOf xs e) (tailOf xs o) (xs.getD i 0) with
      | true => exact ⟨_, rfl, iteF (h2 _ (Same.refl _) (by rw [hg]; rfl))⟩
      | false => exact ⟨_, rfl, iteT (h1 _ (Same.refl _) (by rw [hg]; rfl))⟩
    · rw [List.length_map, filter_get (fun n => !goesOn (tailOf xs e) (tailOf xs o) n) V.int] at e5
      refine ⟨D, rfl, _, .inl ⟨.of e5, fun l hl => ?_⟩⟩
      have sl : Same H5 (upd H5 l (.tup ((fewOf xs (tailOf xs e) (tailOf xs o)).map V.int))) := Same.upd (Same.refl H5) hl
      have el : (upd H5 l (.tup ((fewOf xs (tailOf xs e) (tailOf xs o)).map V.int))) l = some (.tup ((fewOf xs (tailOf xs e) (tailOf xs o)).map V.int)) := upd_same
      show ∃ x_3 x_4 x_5, (upd H5 l (.tup ((fewOf xs (tailOf xs e) (tailOf xs o)).map V.int))) x = _ ∧ _
      have ex6 := sl _ _ (sa5 _ _ ex)
      have ep6 := sl _ _ (sa5 _ _ ep3)
      have nlx : l ≠ x := fun q => by rw [q, sa5 _ _ ex] at hl; cases hl
      refine ⟨_, _, _, ex6, T.cls.2.2.2.1, T.noS.2, by show (1 : Nat) < 1000; decide, ?_⟩
      refine k _ ((s3.trans (SameX.of (sa5.trans sl))).trans SameX.upd) ⟨dx, p, l, upd_same, .of (by rw [upd_ne npx]; exact ep6), .of (by rw [upd_ne nlx]; exact el)⟩
/-- the ways to call Sizes -/
structure SzF (P : Program) (w : World) (K : PySem.W.Frag) (mg : Str → Option Value) (base : Heap) (fd : FuncData) (g3 g2 g1 : List Value → List Value → List Value) (d4 d3 : List Value) : Prop where
  ok : FnOk P w K mg base CX0 4 (ma K (ga K "Sizes") "__init__") fd ["self", "listed", "even", "odd", "most"] (spSizesInit K)
  k3 : KBn K fd ["self", "listed", "even", "odd", "most"] 2 ["even", "odd", "most"] g3 (fun vs zs => vs ++ zs)
  k2 : KBn K fd ["self", "listed", "even", "odd", "most"] 1 ["even", "odd"] g2 (fun vs zs => vs ++ (.ref (dflAd K) :: (zs ++ [.int 200])))
  k1 : KBn K fd ["self", "listed", "even", "odd", "most"] 2 ["even"] g1 (fun vs zs => vs ++ (zs ++ [.non, .int 200]))
  b4 : Vals [.ref (dflAd K), .non, .non, .int 200] d4 ∧ Binds K fd ["self", "listed", "even", "odd", "most"] d4
  b3 : Vals [.non, .non, .int 200] d3 ∧ Binds K fd ["self", "listed", "even", "odd", "most"] d3
theorem SF (T : TX w K mg) : ∃ fd g3 g2 g1 d4 d3, SzF P w K mg base fd g3 g2 g1 d4 d3 := by
  obtain ⟨fd, F⟩ := T.fi 54
  have F : FunD K d_Sizes_init.name d_Sizes_init.qual d_Sizes_init.params d_Sizes_init.body d_Sizes_init.scope [.ref (dflAd K)] [("even", .non), ("odd", .non), ("most", .int 200)] (ma K (ga K "Sizes") "__init__") fd := F
  obtain ⟨i3, m3, k3⟩ := F.kbinds (ps := ["self", "listed", "even", "odd", "most"]) 2 ["even", "odd", "most"] [] (fun us _ _ ws => us ++ ws) (List.cons_ne_nil _ _) (List.cons_ne_nil _ _) (fun q hq => by cases hq) (fun a b c d => a.append d)
    fun Ta D doc pm an cdv ct us its mv ws l1 l2 l3 l4 => by
      match us, its, mv, ws, l1, l2, l3, l4 with
      | [_, _], [_], [], [_, _, _], _, _, _, _ => exact ⟨_, rfl, rfl⟩
  obtain ⟨i2, m2, k2⟩ := F.kbinds (ps := ["self", "listed", "even", "odd", "most"]) 1 ["even", "odd"] [("most", .int 200)] (fun us its mv ws => us ++ (its ++ (ws ++ mv))) (List.cons_ne_nil _ _) (List.cons_ne_nil _ _) (fun q hq => by simp at hq; subst hq; simp) (fun a b c d => a.append (b.append (d.append c)))
    fun Ta D doc pm an cdv ct us its mv ws l1 l2 l3 l4 => by
      match us, its, mv, ws, l1, l2, l3, l4 with
      | [_], [_], [_], [_, _], _, _, _, _ => exact ⟨_, rfl, _, _, _, _, _, _, rfl, rfl, rfl⟩
  obtain ⟨i1, m1, k1⟩ := F.kbinds (ps := ["self", "listed", "even", "odd", "most"]) 2 ["even"] [("odd", .non), ("most", .int 200)] (fun us its mv ws => us ++ (ws ++ mv)) (List.cons_ne_nil _ _) (List.cons_ne_nil _ _) (fun q hq => by simp at hq; rcases hq with rfl | rfl <;> simp) (fun a b c d => a.append (d.append c))
    fun Ta D doc pm an cdv ct us its mv ws l1 l2 l3 l4 => by
      match us, its, mv, ws, l1, l2, l3, l4 with
      | [_, _], [_], [_, _], [_], _, _, _, _ => exact ⟨_, rfl, _, _, _, _, _, _, rfl, rfl, _, _, _, _, _, _, rfl, rfl, rfl⟩
  obtain ⟨d4, v4, b4⟩ := F.binds (ps := ["self", "listed", "even", "odd", "most"]) 1 0 (List.cons_ne_nil _ _) rfl (fun Ta D doc pm an cdv ct us its ks l1 l2 l3 => by
      match us, its, ks, l1, l2, l3 with
      | [_], [_], [_, _, _], _, _, _ => exact ⟨_, rfl, _, _, _, _, _, _, rfl, rfl, _, _, _, _, _, _, rfl, rfl, _, _, _, _, _, _, rfl, rfl, rfl⟩) (List.cons_ne_nil _ _)
  obtain ⟨d3, v3, b3⟩ := F.binds (ps := ["self", "listed", "even", "odd", "most"]) 2 1 (List.cons_ne_nil _ _) rfl (fun Ta D doc pm an cdv ct us its ks l1 l2 l3 => by
      match us, its, ks, l1, l2, l3 with
      | [_, _], [_], [_, _, _], _, _, _ => exact ⟨_, rfl, _, _, _, _, _, _, rfl, rfl, _, _, _, _, _, _, rfl, rfl, _, _, _, _, _, _, rfl, rfl, rfl⟩) (List.cons_ne_nil _ _)
  exact ⟨fd, _, _, _, _, _, F_Sizes_init T F, k3, k2, k1, ⟨v4, b4⟩, ⟨v3, b3⟩⟩
def spSizesContains (K : PySem.W.Frag) : Sp := fun vs H Q _ => ∃ (a : Addr) (few : List Int) (e o : Option Int) (n : Int), vs = [.ref a, .int n] ∧ SizesAt K H a few e o ∧ Q (.bl (decide (n ∈ few) || goesOn e o n)) H
abbrev N_Sizes_contains : List Str := ["self", "value"]
theorem sc_Sizes_contains : FnScope N_Sizes_contains ["self", "value"] (defScope (inClass (top 89) 5)) := ⟨rfl, rfl, rfl, by decide +kernel, rfl, by decide +kernel, by decide +kernel⟩
theorem F_Sizes_contains (T : TX w K mg) : FnR P w K mg base CX0 2 (ma K (ga K "Sizes") "__contains__") (spSizesContains K) := by
  obtain ⟨fd, F⟩ := T.fi 55
  have nd := sc_Sizes_contains.nd
  have F_is_integer := F_is_integer (P := P) (base := base) T
  have F_goes_on := F_goes_on (P := P) (base := base) T
  refine raw0 F sc_Sizes_contains (fun vs H Q E h => ?_) (fun _ _ _ _ _ _ us hl => match us, hl with | [_, _], _ => rfl) (fun cdv A outer s H vs Q E hr h => ?_)
  · obtain ⟨a, few, e, o, n, rfl, ha, k⟩ := h
    rfl
  · obtain ⟨a, few, e, o, n, rfl, ha, k⟩ := h
    refine ⟨_, (pss_one (ps_ret (pe_and (pe_f F_is_integer hr (pa_cons (pv 1) pa_nil)) (pe_one (pe_or (pe_cmpR op_in_seq (pv 1) (pe_fld (pv 0) rfl) (by rfl)) (pe_one (pe_f F_goes_on hr (pa_cons (pe_fld (pv 0) rfl) (pa_cons (pv 1) pa_nil))))))))), ?_⟩
    obtain ⟨dx, t, f, e1, e2, e3⟩ := ha
    simp only [tSeq, tRet, tRetN, tAsg, tIf, tIfS, tNext, tTest, tB, cx_K, cx_w, cx_nK, cx_nw, tOp, tUn, tVar, tC, tCons, tNil, tTup, tLst, tF, tM1, tCB, tAnd, tOr, tNot, tAndV, tOrV, tNotV, tChain, tFld, tPart, tNoPart, tSl, rU, rI0, rI, rEq, rNe, rIxD, rIxL, rIxT, rLen, rIsi, rLenQ, rTupOf, rIn, rSlL, rNewStrs, rAppend, rCat, gUnl, tDrop, wipe, List.foldl_cons, List.foldl_nil, StX.tMakeR, sFld, tLenSetN, tDictZip, rIndex, rSorted, rSortedT, rSetOfT, tPar, tPar3, tBM, rSum, rAll, rAny, tNever, gName, gTup, gCons, gNil, L2.start, List.map_cons, List.map_nil, List.length_cons, List.length_nil, List.cons_append, List.nil_append, List.set_cons_zero, List.set_cons_succ, List.getElem?_cons_zero, List.getElem?_cons_succ, Option.some.injEq, V.int.injEq, V.str.injEq, V.bl.injEq, V.ref.injEq, V.ty.injEq, List.cons.injEq, exists_and_left, exists_and_right, exists_eq_left, exists_eq_left', exists_eq, exists_eq', and_true, true_and, exists_const, List.replicate, Nat.sub_self, Nat.reduceAdd, Nat.reduceSub, if_true, if_false, Bool.false_eq_true, ite_true, ite_false, reduceIte]
    refine ⟨n, rfl, ?_⟩
    refine ⟨_, rfl, iteT ⟨_, _, _, e1, T.cls.2.2.2.1, T.noS.2, _, rfl, f, rfl, _, .inr e3, rfl, flat_ints few, ?_⟩⟩
    rw [inV_ints]
    by_cases hn : n ∈ few
    · rw [decide_eq_true hn] at k ⊢
      exact iteT k
    · rw [decide_eq_false hn] at k ⊢
      exact iteF ⟨_, _, _, e1, T.cls.2.2.2.1, T.noS.1, _, rfl, _, _, _, _, rfl, e2, k⟩
theorem shaped_ints (xs : List Int) : SeqAt.shaped (.tuple (xs.map PyData.int)) = true := by
  unfold SeqAt.shaped
  have h1 : PyData.canLay0 (.tuple (xs.map PyData.int)) = true := by
    show PyData.canLayAll0 _ = true
    induction xs with
    | nil => rfl
    | cons x xs ih => exact ih
  have h2 : PyData.depth (.tuple (xs.map PyData.int)) ≤ 64 := by simp [PyData.depth, PySem.W.depth_ints]
  rw [h1, decide_eq_true h2]
  rfl
theorem eqv_ints : ∀ xs ys : List Int, PyData.eqvAll (xs.map PyData.int) (ys.map PyData.int) = decide (xs = ys)
  | [], [] => rfl
  | [], _ :: _ => rfl
  | _ :: _, [] => rfl
  | x :: xs, y :: ys => by
    show (x == y && PyData.eqvAll _ _) = _
    rw [eqv_ints xs ys]
    by_cases h : x = y <;> by_cases h2 : xs = ys <;> simp [h, h2]
def ovD : Option Int → PyData
  | none => .none
  | some i => .int i
theorem dp_ov {H : Hp} : ∀ x : Option Int, Dp K H (ovV x) (ovD x)
  | none => .non
  | some i => .int i
theorem shaped_ov (e o : Option Int) : SeqAt.shaped (.tuple [ovD e, ovD o]) = true := by
  cases e <;> cases o <;> rfl
theorem eqv_ov (e o e' o' : Option Int) : PyData.eqv (.tuple [ovD e, ovD o]) (.tuple [ovD e', ovD o']) = decide ((e, o) = (e', o')) := by
  show (PyData.eqv (ovD e) (ovD e') && (PyData.eqv (ovD o) (ovD o') && true)) = _
  have one : ∀ x y : Option Int, PyData.eqv (ovD x) (ovD y) = decide (x = y) := by
    intro x y
    cases x <;> cases y
    · rfl
    · rfl
    · rfl
    · rename_i a b
      show (a == b) = _
      by_cases h : a = b <;> simp [h]
  rw [one, one]
  by_cases h : e = e' <;> by_cases h2 : o = o' <;> simp [h, h2]
def spSizesEq (K : PySem.W.Frag) : Sp := fun vs H Q _ => ∃ (a b : Addr) (few few' : List Int) (e o e' o' : Option Int), vs = [.ref a, .ref b] ∧ SizesAt K H a few e o ∧ SizesAt K H b few' e' o' ∧ Q (.bl (decide ((few, e, o) = (few', e', o')))) H
abbrev N_Sizes_eq : List Str := ["self", "other"]
theorem sc_Sizes_eq : FnScope N_Sizes_eq ["self", "other"] (defScope (inClass (top 89) 10)) := ⟨rfl, rfl, rfl, by decide +kernel, rfl, by decide +kernel, by decide +kernel⟩
theorem F_Sizes_eq (T : TX w K mg) : FnR P w K mg base CX0 1 (ma K (ga K "Sizes") "__eq__") (spSizesEq K) := by
  obtain ⟨fd, F⟩ := T.fi 56
  have nd := sc_Sizes_eq.nd
  refine raw0 F sc_Sizes_eq (fun vs H Q E h => ?_) (fun _ _ _ _ _ _ us hl => match us, hl with | [_, _], _ => rfl) (fun cdv A outer s H vs Q E hr h => ?_)
  · obtain ⟨a, b, few, few', e, o, e', o', rfl, ha, hb, k⟩ := h
    rfl
  · obtain ⟨a, b, few, few', e, o, e', o', rfl, ha, hb, k⟩ := h
    refine ⟨_, (pss_cons (ps_if (pt_not (pt_val (pe_callB call_isi (by rfl) (T.z "isinstance") (by decide +kernel) (pa_cons (pv 1) (pa_cons (pe_K rfl (T.g "Sizes")) pa_nil))))) (pss_one ps_never) pss_nil)
    (pss_one (ps_ret (pe_and (pe_cmpR (op_eqD hr.units) (pe_fld (pv 0) rfl) (pe_fld (pv 1) rfl) (nomark _)) (pe_one (pe_cmpR (op_eqD hr.units) (pe_fld (pv 0) rfl) (pe_fld (pv 1) rfl) (nomark _))))))), ?_⟩
    obtain ⟨dx, t, f, e1, e2, e3⟩ := ha
    obtain ⟨dx', t', f', e1', e2', e3'⟩ := hb
    refine seqG fun R hR => ?_
    simp only [tSeq, tRet, tRetN, tAsg, tIf, tIfS, tNext, tTest, tB, cx_K, cx_w, cx_nK, cx_nw, tOp, tUn, tVar, tC, tCons, tNil, tTup, tLst, tF, tM1, tCB, tAnd, tOr, tNot, tAndV, tOrV, tNotV, tChain, tFld, tPart, tNoPart, tSl, rU, rI0, rI, rEq, rNe, rIxD, rIxL, rIxT, rLen, rIsi, rLenQ, rTupOf, rIn, rSlL, rNewStrs, rAppend, rCat, gUnl, tDrop, wipe, List.foldl_cons, List.foldl_nil, StX.tMakeR, sFld, tLenSetN, tDictZip, rIndex, rSorted, rSortedT, rSetOfT, tPar, tPar3, tBM, rSum, rAll, rAny, tNever, gName, gTup, gCons, gNil, L2.start, List.map_cons, List.map_nil, List.length_cons, List.length_nil, List.cons_append, List.nil_append, List.set_cons_zero, List.set_cons_succ, List.getElem?_cons_zero, List.getElem?_cons_succ, Option.some.injEq, V.int.injEq, V.str.injEq, V.bl.injEq, V.ref.injEq, V.ty.injEq, List.cons.injEq, exists_and_left, exists_and_right, exists_eq_left, exists_eq_left', exists_eq, exists_eq', and_true, true_and, exists_const, List.replicate, Nat.sub_self, Nat.reduceAdd, Nat.reduceSub, if_true, if_false, Bool.false_eq_true, ite_true, ite_false, reduceIte]
    obtain ⟨ty, kt⟩ := isi_own T.e.insS T.cls.2.2.2.1 e1'
    refine ⟨_, _, ⟨rfl, rfl⟩, _, _, .own _, ty, _, kt, iteF ?_⟩
    rw [hR]; clear hR R
    simp only [tSeq, tRet, tRetN, tAsg, tIf, tIfS, tNext, tTest, tB, cx_K, cx_w, cx_nK, cx_nw, tOp, tUn, tVar, tC, tCons, tNil, tTup, tLst, tF, tM1, tCB, tAnd, tOr, tNot, tAndV, tOrV, tNotV, tChain, tFld, tPart, tNoPart, tSl, rU, rI0, rI, rEq, rNe, rIxD, rIxL, rIxT, rLen, rIsi, rLenQ, rTupOf, rIn, rSlL, rNewStrs, rAppend, rCat, gUnl, tDrop, wipe, List.foldl_cons, List.foldl_nil, StX.tMakeR, sFld, tLenSetN, tDictZip, rIndex, rSorted, rSortedT, rSetOfT, tPar, tPar3, tBM, rSum, rAll, rAny, tNever, gName, gTup, gCons, gNil, L2.start, List.map_cons, List.map_nil, List.length_cons, List.length_nil, List.cons_append, List.nil_append, List.set_cons_zero, List.set_cons_succ, List.getElem?_cons_zero, List.getElem?_cons_succ, Option.some.injEq, V.int.injEq, V.str.injEq, V.bl.injEq, V.ref.injEq, V.ty.injEq, List.cons.injEq, exists_and_left, exists_and_right, exists_eq_left, exists_eq_left', exists_eq, exists_eq', and_true, true_and, exists_const, List.replicate, Nat.sub_self, Nat.reduceAdd, Nat.reduceSub, if_true, if_false, Bool.false_eq_true, ite_true, ite_false, reduceIte]
    refine ⟨_, _, _, e1, T.cls.2.2.2.1, T.noS.2, _, rfl, _, _, _, e1', T.cls.2.2.2.1, T.noS.2, _, rfl, .tuple (few.map PyData.int), .tuple (few'.map PyData.int), .tup e3 (dpAll_ints _), .tup e3' (dpAll_ints _), shaped_ints _, shaped_ints _, _, rfl, ?_⟩
    rw [show PyData.eqv (.tuple (few.map PyData.int)) (.tuple (few'.map PyData.int)) = decide (few = few') from eqv_ints few few']
    by_cases hf : few = few'
    · rw [decide_eq_true hf]
      refine iteT ⟨_, _, _, e1, T.cls.2.2.2.1, T.noS.1, _, rfl, _, _, _, e1', T.cls.2.2.2.1, T.noS.1, _, rfl, .tuple [ovD e, ovD o], .tuple [ovD e', ovD o'], .tup e2 (.cons (dp_ov e) (.cons (dp_ov o) .nil)), .tup e2' (.cons (dp_ov e') (.cons (dp_ov o') .nil)), shaped_ov _ _, shaped_ov _ _, ?_⟩
      rw [eqv_ov]
      have q : decide ((few, e, o) = (few', e', o')) = decide ((e, o) = (e', o')) := by simp [hf]
      rw [q] at k
      exact k
    · rw [decide_eq_false hf]
      have q : decide ((few, e, o) = (few', e', o')) = false := by simp [hf]
      rw [q] at k
      exact iteF k
/-- a new Sizes of values that pass the checks -/
theorem sizes_made {H : Hp} {f : Addr} {xs : List Int} {e o : Option Int} {m : Int} {Q : VK} (hf : SqT K H f (xs.map V.int)) (ok : okListed xs m) (hlen : xs.length ≤ 1000) (oe : okTail e 0 m) (oo : okTail o 1 m)
    (k : ∀ H' a, Same H H' → H a = none → SizesAt K H' a (fewOf xs (tailOf xs e) (tailOf xs o)) (tailOf xs e) (tailOf xs o) → Q (.ref a) H') (x dx : Addr) (hx : H x = none) (hdx : H dx = none) (ne : dx ≠ x) :
    spSizesInit K [.ref x, .ref f, ovV e, ovV o, .int m] (upd (upd H dx (.own x)) x (.ins (ga K "Sizes") dx [])) (fun v H3 => v = .non ∧ Q (.ref x) H3) E0 := by
  have s1 : Same H (upd (upd H dx (.own x)) x (.ins (ga K "Sizes") dx [])) := Same.updD (Same.updD (Same.refl H) hdx) hx
  refine ⟨x, dx, f, xs, e, o, m, rfl, Same.tup s1 hf, ok, hlen, oe, oo, upd_same, fun H' sx hs => ⟨rfl, k H' x (fun b u h => ?_) hx hs⟩⟩
  have nb : b ≠ x := fun q => by rw [q, hx] at h; cases h
  exact sx _ _ nb (s1 _ _ h)
def szFew0 (bs : List Bool) : List Int := ((List.range 9).filter fun i => bs.getD i false).map fun i => ((i : Nat) : Int) + 1
def szE0 (bs : List Bool) : Option Int := if bs.getD 9 false then some 10 else none
def szO0 (bs : List Bool) : Option Int := if bs.getD 10 false then some 11 else none
def szE (bs : List Bool) : Option Int := tailOf (szFew0 bs) (szE0 bs)
def szO (bs : List Bool) : Option Int := tailOf (szFew0 bs) (szO0 bs)
def szFew (bs : List Bool) : List Int := fewOf (szFew0 bs) (szE bs) (szO bs)
theorem okListed_of {xs : List Int} {m : Int} (h : xs.Pairwise (· < ·)) (hb : ∀ x ∈ xs, 1 ≤ x ∧ x ≤ m) : okListed xs m := by
  intro i hi
  have e : xs.getD i 0 = xs[i] := by rw [List.getD_eq_getElem?_getD, List.getElem?_eq_getElem hi]; rfl
  obtain ⟨b1, b2⟩ := hb xs[i] (List.getElem_mem hi)
  rw [e]
  refine ⟨?_, b2⟩
  by_cases h0 : i = 0
  · rw [if_pos h0]; omega
  · rw [if_neg h0]
    have e2 : xs.getD (i - 1) 0 = xs[i - 1] := by rw [List.getD_eq_getElem?_getD, List.getElem?_eq_getElem (by omega)]; rfl
    rw [e2]
    have := List.pairwise_iff_getElem.mp h (i - 1) i (by omega) hi (by omega)
    omega
theorem szFew0_ok (bs : List Bool) : okListed (szFew0 bs) 11 ∧ (szFew0 bs).length ≤ 1000 := by
  refine ⟨okListed_of ?_ ?_, ?_⟩
  · unfold szFew0
    rw [List.pairwise_map]
    refine List.Pairwise.imp ?_ (List.Pairwise.filter _ List.pairwise_lt_range)
    intro a b h
    omega
  · intro x hx
    obtain ⟨i, hi, rfl⟩ := List.mem_map.mp hx
    have := List.mem_range.mp (List.mem_filter.mp hi).1
    omega
  · unfold szFew0
    rw [List.length_map]
    have := List.length_filter_le (fun i => bs.getD i false) (List.range 9)
    rw [List.length_range] at this
    omega
def spSizesWhere (K : PySem.W.Frag) : Sp := fun vs H Q _ => ∃ (l : Addr) (bs : List Bool), vs = [.ref l] ∧ bs.length = 11 ∧ SqL K H l (bs.map V.bl) ∧ ∀ H' a, Same H H' → H a = none → SizesAt K H' a (szFew bs) (szE bs) (szO bs) → Q (.ref a) H'
abbrev N_sizes_where : List Str := ["truths", "many", "few", "size", "ends"]
theorem sc_sizes_where : FnScope N_sizes_where ["truths"] (defScope (top 92)) := ⟨rfl, rfl, rfl, by decide +kernel, rfl, by decide +kernel, by decide +kernel⟩
theorem F_sizes_where (T : TX w K mg) : Fn P w K mg base 6 "sizes_where" (spSizesWhere K) := by
  obtain ⟨fd, F⟩ := T.fi 35
  have nd := sc_sizes_where.nd
  obtain ⟨fdS, g3, g2, g1, d4, d3, SF⟩ := SF (P := P) (base := base) T
  refine ⟨_, raw0 F sc_sizes_where (fun vs H Q E h => ?_) (fun _ _ _ _ _ _ us hl => match us, hl with | [_], _ => rfl) (fun cdv A outer s H vs Q E hr h => ?_), T.g "sizes_where", F.kp⟩
  · obtain ⟨_, _, rfl, _⟩ := h
    rfl
  · obtain ⟨l, bs, rfl, hb, hl, k⟩ := h
    refine ⟨_, (pss_cons (ps_set (i := 1) nd rfl (Or.inl rfl) (pe_callB call_len_seq (by rfl) (T.z "len") (by decide +kernel) (pa_cons (pv 0) pa_nil)))
    (pss_cons (ps_set (i := 2) nd rfl (Or.inl rfl) (pe_callTy call_tuple_of (by rfl) (T.z "tuple") (by decide +kernel) (pa_cons (pe_lc (own := [("size", 3)]) (g := gName 3) (by rfl) nd (pi_range2 (by rfl) (T.z "range") (pa_cons (pe_int) (pa_cons (pe_op op_sub (pv 1) (pe_int)) pa_nil))) (blkOk_by (own := [("size", 3)]) (N := N_sizes_where) (sc := (defScope (top 92))) (by decide +kernel)) (fun _ _ _ _ _ => (pg_name (i := 3) nd rfl (Or.inl rfl))) (fun _ _ _ _ _ => (pts_one (pt_val (pe_ix (r := rIxL K) ix_list (pv 0) (pe_op op_sub (pv 3) (pe_int)) (fun _ _ => rfl))))) (fun _ _ _ _ _ => (pv 3))) pa_nil)))
    (pss_cons (ps_setLc (i := 4) (own := [("size", 3)]) (g := gName 3) (tt := tYes) (by rfl) nd rfl rfl (sw_true rfl rfl rfl (by decide +kernel)) (pi_tup (pe_tup (pa_cons (pe_op op_sub (pv 1) (pe_int)) (pa_cons (pv 1) pa_nil)))) (blkOk_by (own := [("size", 3)]) (N := N_sizes_where) (sc := (defScope (top 92))) (by decide +kernel)) (fun _ _ _ _ _ => (pg_name (i := 3) nd rfl (Or.inl rfl))) (fun _ _ _ _ _ => pts_nil) (fun _ _ _ _ _ => (pe_ifExp (pt_val (pe_ix (r := rIxL K) ix_list (pv 0) (pe_op op_sub (pv 3) (pe_int)) (fun _ _ => rfl))) (pv 3) (pe_non))))
    (pss_cons (ps_if (pt_cmpR op_eq (pe_op op_modN (pe_callTy call_int1 (by rfl) (T.z "int") (by decide +kernel) (pa_cons (pv 1) pa_nil)) (pe_int)) (pe_int) (nomark _)) (pss_one (ps_ret (pe_makeK T.mkS SF.ok (hr.mono (by decide)) rfl (T.g "Sizes") SF.k3 pass0 (pa_cons (pv 2) pa_nil) (pk_cons (pe_ix ix_list (pv 4) (pe_int) (fun _ _ => rfl)) (pk_cons (pe_ix ix_list (pv 4) (pe_int) (fun _ _ => rfl)) (pk_cons (pv 1) pk_nil)))))) pss_nil)
    (pss_one (ps_ret (pe_makeK T.mkS SF.ok (hr.mono (by decide)) rfl (T.g "Sizes") SF.k3 pass0 (pa_cons (pv 2) pa_nil) (pk_cons (pe_ix ix_list (pv 4) (pe_int) (fun _ _ => rfl)) (pk_cons (pe_ix ix_list (pv 4) (pe_int) (fun _ _ => rfl)) (pk_cons (pv 1) pk_nil)))))))))), ?_⟩
    refine seqG fun R hR => ?_
    simp only [tSeq, tRet, tRetN, tAsg, tIf, tIfS, tNext, tTest, tB, cx_K, cx_w, cx_nK, cx_nw, tOp, tUn, tVar, tC, tCons, tNil, tTup, tLst, tF, tM1, tCB, tAnd, tOr, tNot, tAndV, tOrV, tNotV, tChain, tFld, tPart, tNoPart, tSl, rU, rI0, rI, rEq, rNe, rIxD, rIxL, rIxT, rLen, rIsi, rLenQ, rTupOf, rIn, rSlL, rNewStrs, rAppend, rCat, gUnl, tDrop, wipe, List.foldl_cons, List.foldl_nil, StX.tMakeR, sFld, tLenSetN, tDictZip, rIndex, rSorted, rSortedT, rSetOfT, tPar, tPar3, tBM, rSum, rAll, rAny, tNever, gName, gTup, gCons, gNil, L2.start, List.map_cons, List.map_nil, List.length_cons, List.length_nil, List.cons_append, List.nil_append, List.set_cons_zero, List.set_cons_succ, List.getElem?_cons_zero, List.getElem?_cons_succ, Option.some.injEq, V.int.injEq, V.str.injEq, V.bl.injEq, V.ref.injEq, V.ty.injEq, List.cons.injEq, exists_and_left, exists_and_right, exists_eq_left, exists_eq_left', exists_eq, exists_eq', and_true, true_and, exists_const, List.replicate, Nat.sub_self, Nat.reduceAdd, Nat.reduceSub, if_true, if_false, Bool.false_eq_true, ite_true, ite_false, reduceIte]
    have hm : ((bs.map V.bl).length : Int) = 11 := by rw [List.length_map, hb]; rfl
    refine ⟨_, .inl hl, ?_⟩
    rw [hm]
    rw [hR]; clear hR R
    refine seqG fun R hR => ?_
    have key : ∀ (i : Nat) (o : Int), i < 11 → o = i + 1 → atI (bs.map V.bl) (o - 1) = some (V.bl (bs.getD i false)) := by
      intro i o hi ho
      have e : o - 1 = (i : Int) := by omega
      rw [e]
      refine atI_nat ?_
      rw [List.getElem?_map, List.getElem?_eq_getElem (by omega), List.getD_eq_getElem?_getD, List.getElem?_eq_getElem (by omega)]
      rfl
    simp only [tSeq, tRet, tRetN, tAsg, tIf, tIfS, tNext, tTest, tB, cx_K, cx_w, cx_nK, cx_nw, tOp, tUn, tVar, tC, tCons, tNil, tTup, tLst, tF, tM1, tCB, tAnd, tOr, tNot, tAndV, tOrV, tNotV, tChain, tFld, tPart, tNoPart, tSl, rU, rI0, rI, rEq, rNe, rIxD, rIxL, rIxT, rLen, rIsi, rLenQ, rTupOf, rIn, rSlL, rNewStrs, rAppend, rCat, gUnl, tDrop, wipe, List.foldl_cons, List.foldl_nil, StX.tMakeR, sFld, tLenSetN, tDictZip, rIndex, rSorted, rSortedT, rSetOfT, tPar, tPar3, tBM, rSum, rAll, rAny, tNever, gName, gTup, gCons, gNil, L2.start, List.map_cons, List.map_nil, List.length_cons, List.length_nil, List.cons_append, List.nil_append, List.set_cons_zero, List.set_cons_succ, List.getElem?_cons_zero, List.getElem?_cons_succ, Option.some.injEq, V.int.injEq, V.str.injEq, V.bl.injEq, V.ref.injEq, V.ty.injEq, List.cons.injEq, exists_and_left, exists_and_right, exists_eq_left, exists_eq_left', exists_eq, exists_eq', and_true, true_and, exists_const, List.replicate, Nat.sub_self, Nat.reduceAdd, Nat.reduceSub, if_true, if_false, Bool.false_eq_true, ite_true, ite_false, reduceIte]
    refine ⟨_, rfl, 11, 1, rfl, rfl, 1, 11 - 1, rfl, ⟨by decide, by decide, by decide, by decide⟩, fun D hD => lcf (walk_range (lo := 1) (n := 9)) (by rw [sizeLine_eq]; decide) hD (fun i => V.int ((i : Nat) + 1 : Int)) (fun i => bs.getD i false) (fun _ _ => trivial) (fun i H x H' y => ⟨y.1, by have := y.2; dsimp only at this; rw [this, Int.add_comm]⟩) (fun i H5 Q1 Q2 hi sa5 h1 h2 => ?_) (fun H5 sa5 e5 => ?_)⟩
    · refine ⟨rfl, ?_⟩
      simp only [tSeq, tRet, tRetN, tAsg, tIf, tIfS, tNext, tTest, tB, cx_K, cx_w, cx_nK, cx_nw, tOp, tUn, tVar, tC, tCons, tNil, tTup, tLst, tF, tM1, tCB, tAnd, tOr, tNot, tAndV, tOrV, tNotV, tChain, tFld, tPart, tNoPart, tSl, rU, rI0, rI, rEq, rNe, rIxD, rIxL, rIxT, rLen, rIsi, rLenQ, rTupOf, rIn, rSlL, rNewStrs, rAppend, rCat, gUnl, tDrop, wipe, List.foldl_cons, List.foldl_nil, StX.tMakeR, sFld, tLenSetN, tDictZip, rIndex, rSorted, rSortedT, rSetOfT, tPar, tPar3, tBM, rSum, rAll, rAny, tNever, gName, gTup, gCons, gNil, L2.start, List.map_cons, List.map_nil, List.length_cons, List.length_nil, List.cons_append, List.nil_append, List.set_cons_zero, List.set_cons_succ, List.getElem?_cons_zero, List.getElem?_cons_succ, Option.some.injEq, V.int.injEq, V.str.injEq, V.bl.injEq, V.ref.injEq, V.ty.injEq, List.cons.injEq, exists_and_left, exists_and_right, exists_eq_left, exists_eq_left', exists_eq, exists_eq', and_true, true_and, exists_const, List.replicate, Nat.sub_self, Nat.reduceAdd, Nat.reduceSub, if_true, if_false, Bool.false_eq_true, ite_true, ite_false, reduceIte]
      refine ⟨_, Same.seq sa5 hl, V.bl (bs.getD i false), key i _ (by omega) rfl, ?_⟩
      cases hg : bs.getD i false with
      | true => exact ⟨_, rfl, iteT (h1 _ (Same.refl _) hg)⟩
      | false => exact ⟨_, rfl, iteF (h2 _ (Same.refl _) hg)⟩
    · refine ⟨D, rfl, _, .inl ⟨.of e5, fun f hf => ?_⟩⟩
      have sf : Same H5 (upd H5 f (.tup (((List.range 9).filter fun i => bs.getD i false).map fun i => V.int ((i : Nat) + 1 : Int)))) := Same.upd (Same.refl H5) hf
      have ef : (upd H5 f (.tup (((List.range 9).filter fun i => bs.getD i false).map fun i => V.int ((i : Nat) + 1 : Int)))) f = some (.tup ((szFew0 bs).map V.int)) := by
        rw [upd_same]
        unfold szFew0
        rw [List.map_map]
        rfl
      generalize upd H5 f (.tup (((List.range 9).filter fun i => bs.getD i false).map fun i => V.int ((i : Nat) + 1 : Int))) = H6 at sf ef ⊢
      have s6 : Same H H6 := sa5.trans sf
      rw [hR]; clear hR R
      refine seqG fun R hR => ?_
      simp only [tSeq, tRet, tRetN, tAsg, tIf, tIfS, tNext, tTest, tB, cx_K, cx_w, cx_nK, cx_nw, tOp, tUn, tVar, tC, tCons, tNil, tTup, tLst, tF, tM1, tCB, tAnd, tOr, tNot, tAndV, tOrV, tNotV, tChain, tFld, tPart, tNoPart, tSl, rU, rI0, rI, rEq, rNe, rIxD, rIxL, rIxT, rLen, rIsi, rLenQ, rTupOf, rIn, rSlL, rNewStrs, rAppend, rCat, gUnl, tDrop, wipe, List.foldl_cons, List.foldl_nil, StX.tMakeR, sFld, tLenSetN, tDictZip, rIndex, rSorted, rSortedT, rSetOfT, tPar, tPar3, tBM, rSum, rAll, rAny, tNever, gName, gTup, gCons, gNil, L2.start, List.map_cons, List.map_nil, List.length_cons, List.length_nil, List.cons_append, List.nil_append, List.set_cons_zero, List.set_cons_succ, List.getElem?_cons_zero, List.getElem?_cons_succ, Option.some.injEq, V.int.injEq, V.str.injEq, V.bl.injEq, V.ref.injEq, V.ty.injEq, List.cons.injEq, exists_and_left, exists_and_right, exists_eq_left, exists_eq_left', exists_eq, exists_eq', and_true, true_and, exists_const, List.replicate, Nat.sub_self, Nat.reduceAdd, Nat.reduceSub, if_true, if_false, Bool.false_eq_true, ite_true, ite_false, reduceIte]
      refine ⟨_, rfl, 11, 1, rfl, rfl, _, rfl, by rw [sizeLine_eq]; decide, fun q hq => ?_⟩
      have sq : Same H6 (upd H6 q (.tup [V.int (11 - 1), V.int 11])) := Same.upd (Same.refl H6) hq
      have eq : (upd H6 q (.tup [V.int (11 - 1), V.int 11])) q = some (.tup [V.int (11 - 1), V.int 11]) := upd_same
      refine ⟨q, rfl, ⟨_, .of eq⟩, ?_⟩
      generalize upd H6 q (.tup [V.int (11 - 1), V.int 11]) = H7 at sq eq ⊢
      have s7 : Same H H7 := s6.trans sq
      refine fun D2 hD2 => lcm (walk_tup (xs := [V.int (11 - 1), V.int 11])) (by rw [sizeLine_eq]; decide) hD2 (fun i => ovV (if bs.getD (9 + i) false then some ((9 + i : Nat) + 1) else none)) (fun H sa => Same.tup sa (.of eq)) (fun i x H8 H' Q5 hi sa8 y hq => ?_) (fun H8 sa8 e8 => ?_)
      · obtain ⟨rfl, hx⟩ := y
        have hx2 : x = V.int ((9 + i : Nat) + 1) := by
          rcases i with _ | _ | i
          · cases hx; rfl
          · cases hx; rfl
          · exact absurd hi (by show ¬ _ < 2; omega)
        have hi2 : i < 2 := hi
        subst hx2
        refine ⟨rfl, ?_⟩
        simp only [tSeq, tRet, tRetN, tAsg, tIf, tIfS, tNext, tTest, tB, cx_K, cx_w, cx_nK, cx_nw, tOp, tUn, tVar, tC, tCons, tNil, tTup, tLst, tF, tM1, tCB, tAnd, tOr, tNot, tAndV, tOrV, tNotV, tChain, tFld, tPart, tNoPart, tSl, rU, rI0, rI, rEq, rNe, rIxD, rIxL, rIxT, rLen, rIsi, rLenQ, rTupOf, rIn, rSlL, rNewStrs, rAppend, rCat, gUnl, tDrop, wipe, List.foldl_cons, List.foldl_nil, StX.tMakeR, sFld, tLenSetN, tDictZip, rIndex, rSorted, rSortedT, rSetOfT, tPar, tPar3, tBM, rSum, rAll, rAny, tNever, gName, gTup, gCons, gNil, L2.start, List.map_cons, List.map_nil, List.length_cons, List.length_nil, List.cons_append, List.nil_append, List.set_cons_zero, List.set_cons_succ, List.getElem?_cons_zero, List.getElem?_cons_succ, Option.some.injEq, V.int.injEq, V.str.injEq, V.bl.injEq, V.ref.injEq, V.ty.injEq, List.cons.injEq, exists_and_left, exists_and_right, exists_eq_left, exists_eq_left', exists_eq, exists_eq', and_true, true_and, exists_const, List.replicate, Nat.sub_self, Nat.reduceAdd, Nat.reduceSub, if_true, if_false, Bool.false_eq_true, ite_true, ite_false, reduceIte]
        refine ⟨_, Same.seq (s7.trans sa8) hl, V.bl (bs.getD (9 + i) false), key (9 + i) _ (by omega) rfl, _, rfl, ?_⟩
        cases hg : bs.getD (9 + i) false with
        | true =>
          rw [hg] at hq
          exact iteT (hq _ (Same.refl _))
        | false =>
          rw [hg] at hq
          exact iteF (hq _ (Same.refl _))
      · have e9 : H8 D2 = some (.lst [ovV (szE0 bs), ovV (szO0 bs)]) := e8
        have s8 := s7.trans sa8
        rw [hR]; clear hR R
        refine seqG fun R hR => ?_
        simp only [tSeq, tRet, tRetN, tAsg, tIf, tIfS, tNext, tTest, tB, cx_K, cx_w, cx_nK, cx_nw, tOp, tUn, tVar, tC, tCons, tNil, tTup, tLst, tF, tM1, tCB, tAnd, tOr, tNot, tAndV, tOrV, tNotV, tChain, tFld, tPart, tNoPart, tSl, rU, rI0, rI, rEq, rNe, rIxD, rIxL, rIxT, rLen, rIsi, rLenQ, rTupOf, rIn, rSlL, rNewStrs, rAppend, rCat, gUnl, tDrop, wipe, List.foldl_cons, List.foldl_nil, StX.tMakeR, sFld, tLenSetN, tDictZip, rIndex, rSorted, rSortedT, rSetOfT, tPar, tPar3, tBM, rSum, rAll, rAny, tNever, gName, gTup, gCons, gNil, L2.start, List.map_cons, List.map_nil, List.length_cons, List.length_nil, List.cons_append, List.nil_append, List.set_cons_zero, List.set_cons_succ, List.getElem?_cons_zero, List.getElem?_cons_succ, Option.some.injEq, V.int.injEq, V.str.injEq, V.bl.injEq, V.ref.injEq, V.ty.injEq, List.cons.injEq, exists_and_left, exists_and_right, exists_eq_left, exists_eq_left', exists_eq, exists_eq', and_true, true_and, exists_const, List.replicate, Nat.sub_self, Nat.reduceAdd, Nat.reduceSub, if_true, if_false, Bool.false_eq_true, ite_true, ite_false, reduceIte]
        refine .inl ⟨by decide, by decide, ?_⟩
        refine iteT ?_
        simp only [tSeq, tRet, tRetN, tAsg, tIf, tIfS, tNext, tTest, tB, cx_K, cx_w, cx_nK, cx_nw, tOp, tUn, tVar, tC, tCons, tNil, tTup, tLst, tF, tM1, tCB, tAnd, tOr, tNot, tAndV, tOrV, tNotV, tChain, tFld, tPart, tNoPart, tSl, rU, rI0, rI, rEq, rNe, rIxD, rIxL, rIxT, rLen, rIsi, rLenQ, rTupOf, rIn, rSlL, rNewStrs, rAppend, rCat, gUnl, tDrop, wipe, List.foldl_cons, List.foldl_nil, StX.tMakeR, sFld, tLenSetN, tDictZip, rIndex, rSorted, rSortedT, rSetOfT, tPar, tPar3, tBM, rSum, rAll, rAny, tNever, gName, gTup, gCons, gNil, L2.start, List.map_cons, List.map_nil, List.length_cons, List.length_nil, List.cons_append, List.nil_append, List.set_cons_zero, List.set_cons_succ, List.getElem?_cons_zero, List.getElem?_cons_succ, Option.some.injEq, V.int.injEq, V.str.injEq, V.bl.injEq, V.ref.injEq, V.ty.injEq, List.cons.injEq, exists_and_left, exists_and_right, exists_eq_left, exists_eq_left', exists_eq, exists_eq', and_true, true_and, exists_const, List.replicate, Nat.sub_self, Nat.reduceAdd, Nat.reduceSub, if_true, if_false, Bool.false_eq_true, ite_true, ite_false, reduceIte, tMakeK]
        have qe : SqL K H8 D2 [ovV (szE0 bs), ovV (szO0 bs)] := .of e9
        refine ⟨_, qe, ovV (szE0 bs), atI_nat (j := 0) rfl, _, qe, ovV (szO0 bs), atI_nat (j := 1) rfl, sizes_made (.of (sa8 _ _ (sq _ _ ef))) (szFew0_ok bs).1 (szFew0_ok bs).2 (fun v hv => ?_) (fun v hv => ?_) fun H' a sa ha hs => k H' a (s8.trans sa) (Same.free s8 ha) hs⟩
        · unfold szE0 at hv
          split at hv <;> cases hv
          decide
        · unfold szO0 at hv
          split at hv <;> cases hv
          decide
end
end Sq

set_option Elab.async false
set_option linter.all false
set_option maxRecDepth 100000
set_option maxHeartbeats 4000000
/-! ## {k: v for k in t}, t a tuple of tuples of the top -/
namespace Sq
open PySem PySem.Spec PyProof.Rows L2 He
/-- a key, where its tuple stands, what stands under it -/
abbrev Ent : Type := List Key × Addr × Value
/-- a dict at D whose keys are tuples that may stand in the top -/
def MapO (P : Program) (w : World) (D : Addr) (xs : List Ent) : HO := .ext fun h => ∃ o es ep, h.get? D = some o ∧ o.ExactDict ∧ o.data = .dict es ep ∧ es.toList = xs.map (entryOfKey (tupleKind (mixKind P w)))
section
variable {P : Program} {w : World} {H : Hp} {h : Heap} {D : Addr}
theorem map_ok {xs : List Ent} (e : h.DictOfH (tupleKind (mixKind P w)) D xs) : ObjOk P w H h D (MapO P w D xs) := by
  obtain ⟨o, es, ep, h1, h2, h3, h4, _, _⟩ := e
  refine ⟨⟨o, es, ep, h1, h2, h3, h4⟩, ⟨o, h1⟩, ?_⟩
  rintro a b ⟨o, es, ep, h1, h2, h3, h4⟩ hk
  exact ⟨o, es, ep, hk _ h1, h2, h3, h4⟩
end
section
variable {X : Cx} {pins : List (Addr × Obj)} {σ : L2.St} {H : Hp} {s : Shared} {D : Addr}
theorem key_isK {b : Addr} {k : List Key} (I : Inv X pins σ H s) (h : SqT X.K H b (k.map kV)) : (tupleKind (mixKind X.prog X.w)).is s.heap k b := by
  obtain ⟨its, r, ⟨o, h1, h2, n, h3⟩, _⟩ := I.tuple h
  exact ⟨o, its.toArray, n, h1, h2, h3, by simpa using items_are r⟩
/-- the keys are there -/
def KeysThere (K : PySem.W.Frag) (H : Hp) (xs : List Ent) : Prop := (∀ x ∈ xs, SqT K H x.2.1 (x.1.map kV)) ∧ (xs.map (·.1)).Nodup
theorem map_dict {xs : List Ent} (I : Inv X pins σ H s) (e : H D = some (MapO X.prog X.w D xs)) (hk : KeysThere X.K H xs) : s.heap.DictOfH (tupleKind (mixKind X.prog X.w)) D xs := by
  obtain ⟨⟨o, es, ep, h1, h2, h3, h4⟩, _, _⟩ := (show ObjOk X.prog X.w H s.heap D (MapO X.prog X.w D xs) from I.hok D _ e)
  exact ⟨o, es, ep, h1, h2, h3, h4, fun x hx => key_isK I (hk.1 x hx), hk.2⟩
/-- a new pair -/
theorem map_set {xs : List Ent} {k : List Key} {b t : Addr} {Q : Unit → Shared → Prop} {E : Value → Shared → Prop} (hu : X.A.units < cLine) (I : Inv X pins σ H s) (e : H D = some (MapO X.prog X.w D xs)) (hk : KeysThere X.K H xs)
    (hb : SqT X.K H b (k.map kV)) (hn : k ∉ xs.map (·.1)) (hz : xs.length ≤ sizeLine) (h : ∀ s', Inv X pins σ (upd H D (MapO X.prog X.w D (xs ++ [(k, b, .ref t)]))) s' → Q () s') :
    wpAny (model X.prog X.w) X.A (dictSet D (.ref b) (.ref t)) Q E s := by
  refine wpAny_dictSet_heap (hsz := hz) hu (key_isK I hb) (map_dict I e hk) fun h' dd hs => h _ ?_
  have hno : atKey xs k = none := by
    unfold atKey
    rw [Option.map_eq_none_iff, List.find?_eq_none]
    intro x hx q
    exact hn (of_decide_eq_true q ▸ List.mem_map_of_mem hx)
  rw [storedH_new hno] at dd
  have he : ∃ q, h'.get? D = some q := let ⟨q, _, _, hq, _⟩ := dd; ⟨q, hq⟩
  exact d_write I (by rw [e]; exact True.intro) hs he (map_ok dd)
/-- what stands under a key -/
theorem map_get {xs : List Ent} {k : List Key} {b : Addr} {p : Addr × Value} {A : Around} {Q : Value → Shared → Prop} {E : Value → Shared → Prop} (hu : A.units + 1 < cLine) (I : Inv X pins σ H s) (e : H D = some (MapO X.prog X.w D xs)) (hk : KeysThere X.K H xs)
    (hb : SqT X.K H b (k.map kV)) (hp : atKey xs k = some p) (h : ∀ s', Inv X pins σ H s' → Q p.2 s') : wpAny (model X.prog X.w) A (getItem (.ref D) (.ref b)) Q E s :=
  wpAny_getItem_heap (tupleKind_room_in1 hu) (key_isK I hb) (map_dict I e hk) hp (h _ (I.tok _))
end
section
variable {X : Cx}
/-- d[k] of such a dict -/
def tMGet (P : Program) (w : World) (K : PySem.W.Frag) (td tk : TE) : TE := fun σ H Q => td σ H fun x H1 => tk σ H1 fun y H2 => ∃ D xs b k q t, x = .ref D ∧ y = .ref b ∧ H2 D = some (MapO P w D xs) ∧ KeysThere K H2 xs ∧ SqT K H2 b (k.map kV) ∧ atKey xs k = some (q, .ref t) ∧ Q (.ref t) H2
theorem pe_mget {o i : Expr} {td tk : TE} {pos : Pos} (hu : X.A.units + 1 < cLine) (ho : PE X o td) (hi : PE X i tk) (hs : NoSl i) : PE X (.Subscript o i pos) (tMGet X.prog X.w X.K td tk) := by
  refine ⟨fun pins s σ H Q I h => ?_⟩
  refine subD_of PySem.F.slot_dict_getitem.lookup hs (thn (ho.run pins s σ H _ I h) fun u s1 ⟨x, H1, I1, rx, q1⟩ => thn (hi.run pins s1 σ H1 _ I1 q1) fun iv s2 ⟨y, H2, I2, ry, q2⟩ => ?_)
  obtain ⟨D, xs, b, k, q, t, rfl, rfl, e, hk, hb, hp, q3⟩ := q2
  obtain rfl : u = Value.ref D := rx
  obtain rfl : iv = Value.ref b := ry
  exact ⟨(map_dict I2 e hk).typeIs, map_get hu I2 e hk hb hp fun s3 I3 => ⟨.ref t, H2, I3, rfl, q3⟩⟩
/-- {k: v for target in iter}: D the new dict, its keys new ones -/
def tDcM (P : Program) (w : World) (K : PySem.W.Frag) (wi : TI) (g : TG) (tk tv : TE) (vs : List Nat) : TE := fun σ H Q => wi σ H fun J H1 => ∀ D, H1 D = none → ∃ W : Nat → Nat → Hp → Prop, (∃ m, W 0 m (upd H1 D (MapO P w D []))) ∧ ∀ i m H, W i m H →
  (J.stop i H ∧ Q (.ref D) H) ∨ (J.go i H ∧ ∃ Nx : Hp → Prop, (∀ H', Nx H' → ∃ m', m' < m ∧ W (i + 1) m' H') ∧ ∀ x H', J.yld i H x H' → g x (wipe σ vs) H' fun σ2 H2 => wipe σ2 vs = wipe σ vs ∧
    tk σ2 H2 fun y H4 => tv σ2 H4 fun z H5 => ∃ b t xs k, y = .ref b ∧ z = .ref t ∧ H5 D = some (MapO P w D xs) ∧ KeysThere K H5 xs ∧ SqT K H5 b (k.map kV) ∧ k ∉ xs.map (·.1) ∧ xs.length ≤ sizeLine ∧ Nx (upd H5 D (MapO P w D (xs ++ [(k, b, .ref t)]))))
/-- the turns of the block: what stands before a turn is told by W -/
theorem dcM_core {pins : List (Addr × Obj)} {s : Shared} {σ : L2.St} {H : Hp} {Q : VK} {kx vx tg iter : Expr} {scope : Scope} {own : List (Str × Nat)} {pos pos' : Pos} {wi : TI} {g : TG} {tk tv : TE} {use : Option (Value → Sem Unit)} {Qf : Value → Shared → Prop} (hc : X.calm = true) (hu : X.A.units < cLine) (hN : X.N.Nodup) (I : Inv X pins σ H s) (hi : PI X tg iter wi) (ok : BlkOk X.N X.env.scope scope own)
    (hg : ∀ (s : Shared) (H : Hp) (C : Addr) (cl : List (Str × Addr)) (fp : List Addr), PG (X.blk s H scope (compEnvC scope cl C X.env) fp) tg g)
    (hk : ∀ (s : Shared) (H : Hp) (C : Addr) (cl : List (Str × Addr)) (fp : List Addr), PE (X.blk s H scope (compEnvC scope cl C X.env) fp) kx tk)
    (he : ∀ (s : Shared) (H : Hp) (C : Addr) (cl : List (Str × Addr)) (fp : List Addr), PE (X.blk s H scope (compEnvC scope cl C X.env) fp) vx tv) (hs : ∀ x, foldedSetIterable iter X.env x = pure x)
    (h : tDcM X.prog X.w X.K wi g tk tv (own.map (·.2)) σ H Q)
    (hRR : ∀ D C s' m H', Inv X pins σ H' s' → Q (.ref D) H' → s'.heap.Ns C m → FpOk X pins H' C → compPost (model X.prog X.w) X.A X.xe use Qf (.ref D) C (.ok .next) s') :
    wpAny (model X.prog X.w) X.A (comprehension (.DictComp kx vx [⟨tg, iter, [], 0⟩] scope pos) scope X.env pos' newDict false (eval iter X.env) use) Qf X.xe s := by
  have hfree : ∀ y ∈ scope.names, y.2 = .free → ∃ c, X.env.cells.lookup y.1 = some c := fun y hy e => (ok.free y hy e).elim (fun k => I.ok.has _ (.inl k)) fun k => I.ok.has _ (.inr k)
  refine wpAny_comprehension_free (use := use) rfl hs (closure_ok hfree) ok.kind (fun y hy e => by rw [ok.uniq y hy, e]) (thn (hi.run pins s σ H _ I h) fun xv s1 hx => thn hx fun itv s2 h2 => ?_)
  obtain ⟨it, fp, tn, J, H2, rfl, I2, T, st2, f2, q⟩ := h2
  refine wpAny_newObj_type (newEnv_comp ?_)
  obtain ⟨D, hD⟩ : ∃ D, s2.heap.objs.size = D := ⟨_, rfl⟩
  obtain ⟨W, ⟨m0, w0⟩, turn⟩ := q D (I2.hok.fresh (Nat.le_of_eq hD))
  obtain ⟨s3, hs3⟩ : ∃ s3 : Shared, { s2 with heap := s2.heap.push { cls := .type "dict", data := .dict #[] } } = s3 := ⟨_, rfl⟩
  have h3 : s3.heap = s2.heap.push { cls := .type "dict", data := .dict #[] } := by rw [← hs3]
  obtain ⟨H3, hH3⟩ : ∃ H3, upd H2 D (MapO X.prog X.w D []) = H3 := ⟨_, rfl⟩
  rw [hH3] at w0
  have I3 : Inv X pins σ H3 s3 := by
    rw [← hs3, ← hH3]
    refine I2.laid (t' := s2.toks) (fun b o e => Heap.get?_push_of_some _ e) (Nat.le_of_eq hD) (map_ok ?_)
    rw [← hD]
    exact Heap.DictOfH.new s2.heap
  have sz : ∀ b ∈ fp, b < s2.heap.objs.size := fun b hb => let ⟨o, e, _⟩ := T.obj _ _ st2 b hb; Heap.lt_size e
  have f3 : ∀ b ∈ fp, FpOk X pins H3 b ∧ b < s3.heap.objs.size := fun b hb => by
    refine ⟨⟨?_, (f2 b hb).2⟩, by rw [h3, Heap.size_push]; exact Nat.lt_succ_of_lt (sz b hb)⟩
    rw [← hH3, upd_ne (by rw [← hD]; exact Nat.ne_of_lt (sz b hb))]
    exact (f2 b hb).1
  have st3 : tn 0 s3.heap := T.keep _ _ _ st2 fun b _ o e => by rw [h3]; exact Heap.get?_push_of_some _ e
  have I4 := block_start I3 ok hN f3
  obtain ⟨ce, hce⟩ : ∃ ce, compEnvC scope (cellsFrom (s3.heap.objs.size + 1) scope.names (cloFrom X.env.cells scope.names [])) s3.heap.objs.size X.env = ce := ⟨_, rfl⟩
  have pg := hg s3 H3 s3.heap.objs.size (cellsFrom (s3.heap.objs.size + 1) scope.names (cloFrom X.env.cells scope.names [])) fp
  have pk := hk s3 H3 s3.heap.objs.size (cellsFrom (s3.heap.objs.size + 1) scope.names (cloFrom X.env.cells scope.names [])) fp
  have pe := he s3 H3 s3.heap.objs.size (cellsFrom (s3.heap.objs.size + 1) scope.names (cloFrom X.env.cells scope.names [])) fp
  have cL : ce.locals = s3.heap.objs.size := by rw [← hce]; rfl
  rw [hce] at I4 pg pk pe
  obtain ⟨s4, hs4⟩ : ∃ s4 : Shared, { s3 with heap := pushCells (s3.heap.push { cls := .type "dict", data := .dict #[] }) scope.names } = s4 := ⟨_, rfl⟩
  have st4 : tn 0 s4.heap := T.keep _ _ _ st3 fun b _ o e => by rw [← hs4]; exact pushCells_keeps _ _ _ _ (Heap.get?_push_of_some _ e)
  rw [hs4] at I4
  have free4 : ∀ b ∈ fp, H3 b = none := fun b hb => (f3 b hb).1.1
  have fpAt : ∀ {σ' : L2.St} {H' : Hp} {s' : Shared}, Inv (X.blk s3 H3 scope ce fp) [] σ' H' s' → (∀ b ∈ fp, H' b = none) → ∀ b ∈ fp, FpOk (X.blk s3 H3 scope ce fp) [] H' b := fun {σ' H' s'} I' hn b hb =>
    ⟨hn b hb, (I'.ok.exf b hb).1, I'.ok.exfs b hb, .inl hb, fun x c e => (I'.ok.exf b hb).2 x c e, fun p hp => absurd (show p ∈ ([] : List (Addr × Obj)) ++ [] from hp) (by simp)⟩
  subst hs3
  have loop : codeAny (model X.prog X.w) X.A (.compLoop (.DictComp kx vx [⟨tg, iter, [], 0⟩] scope pos) 0 (.ref it) (.ref D) ce) (compPost (model X.prog X.w) X.A X.xe use Qf (.ref D) ce.locals) s4 := by
    refine compLoop_anyD (fun n s' => ∃ i H', Inv (X.blk _ H3 scope ce fp) [] (wipe σ (own.map (·.2))) H' s' ∧ tn i s'.heap ∧ (∀ b ∈ fp, H' b = none) ∧ W i n H') ?_ m0 ⟨0, H3, I4, st4, free4, w0⟩
    rintro n s5 ⟨i, H5, I5, st5, n5, w5⟩
    rcases turn i n H5 w5 with ⟨stop, qq⟩ | ⟨go, Nx, hNx, step⟩
    · refine thnF (T.done (X.blk _ H3 scope ce fp) rfl rfl rfl hc i [] s5 _ H5 (fun _ _ => False) I5 (fpAt I5 n5) st5 stop) fun r s6 ⟨hr, I6⟩ => ?_
      subst hr
      have I7 : Inv X pins σ H5 s6 := I3.call' (ch := fp) I6.os I6.base I6.hok I6.bare fun b hb => ⟨(f3 b hb).1.2.2.2.1, (f3 b hb).1.2.1, (f3 b hb).1.2.2.2.2.1, (f3 b hb).1.2.2.2.2.2⟩
      have nC : H5 ce.locals = none := I6.free
      obtain ⟨m, hn, _⟩ := I6.loc
      have hn : s6.heap.Ns ce.locals m := hn
      exact hRR D ce.locals s6 m H5 I7 qq hn (I3.fpOk (Nat.le_of_eq cL.symm) nC)
    · refine thnF (T.item (X.blk _ H3 scope ce fp) rfl rfl rfl hc i [] s5 _ H5 (fun _ _ => False) I5 (fpAt I5 n5) st5 go) fun r s6 ⟨u, hr, h6⟩ => ?_
      subst hr
      refine thnF h6 fun _ s7 ⟨x, H7, I7, r7, y7, st7, n7⟩ => ?_
      have I7' := I7.pinned (fpAt I7 n7) (T.obj _ _ st7)
      refine thnF (pg.run _ s7 _ H7 x u _ I7' r7 (step x H7 y7)) fun _ s8 ⟨σ8, H8, I8, hw8, q8⟩ => ?_
      refine wpAny_pure ?_
      rw [if_pos rfl]
      refine thnF (pk.run _ s8 σ8 H8 _ I8 q8) fun z s10 ⟨yk, H10, I10, r10, q10⟩ => ?_
      refine thnF (pe.run _ s10 σ8 H10 _ I10 q10) fun z2 s11 ⟨yv, H11, I11, r11, b, t, xs, k, ey, ez, hD11, hk11, hb11, hn11, hz11, nx⟩ => ?_
      subst ey ez
      obtain rfl : z = Value.ref b := r10
      obtain rfl : z2 = Value.ref t := r11
      refine map_set (X := X.blk _ H3 scope ce fp) hu I11 hD11 hk11 hb11 hn11 hz11 fun s12 I12 => ?_
      obtain ⟨m', hm, w'⟩ := hNx _ nx
      have pin' : ∀ b ∈ fp, ∀ o, s7.heap.get? b = some o → s12.heap.get? b = some o ∧ (upd H11 D (MapO X.prog X.w D (xs ++ [(k, _, Value.ref t)]))) b = none := fun b hb o e =>
        let z := I12.pin (b, o) (List.mem_append_right _ (List.mem_append_right _ (mem_pinsAt hb e)))
        ⟨z.1, z.2.1⟩
      have hl : (wipe σ (own.map (·.2))).length = σ8.length := by rw [← hw8, wipe_length]
      refine ⟨m', hm, i + 1, _, (I12.unpinned (pins := [])).weak hl (fun j v e => ?_), T.keep _ _ _ st7 fun b hb o e => (pin' b hb o e).1, fun b hb => ?_, w'⟩
      · rw [← hw8] at e
        exact (wipe_some e).1
      · obtain ⟨o, e, _⟩ := T.obj _ _ st7 b hb
        exact (pin' b hb o e).2
  have fin := codeAny_compStart_dict loop (T.self X.A 0 _ _ _ st4 loop)
  rw [cL] at fin
  subst hs4 hce hD
  exact fin
theorem pe_dcM {kx vx tg iter : Expr} {scope : Scope} {own : List (Str × Nat)} {pos : Pos} {wi : TI} {g : TG} {tk tv : TE} (hc : X.calm = true) (hu : X.A.units < cLine) (hN : X.N.Nodup) (hi : PI X tg iter wi) (ok : BlkOk X.N X.env.scope scope own)
    (hg : ∀ (s : Shared) (H : Hp) (C : Addr) (cl : List (Str × Addr)) (fp : List Addr), PG (X.blk s H scope (compEnvC scope cl C X.env) fp) tg g)
    (hk : ∀ (s : Shared) (H : Hp) (C : Addr) (cl : List (Str × Addr)) (fp : List Addr), PE (X.blk s H scope (compEnvC scope cl C X.env) fp) kx tk)
    (he : ∀ (s : Shared) (H : Hp) (C : Addr) (cl : List (Str × Addr)) (fp : List Addr), PE (X.blk s H scope (compEnvC scope cl C X.env) fp) vx tv) (hs : ∀ x, foldedSetIterable iter X.env x = pure x := by intro _; rfl) :
    PE X (.DictComp kx vx [⟨tg, iter, [], 0⟩] scope pos) (tDcM X.prog X.w X.K wi g tk tv (own.map (·.2))) := by
  refine ⟨fun pins s σ H Q I h => ?_⟩
  rw [arm_eval_DictComp]
  refine dcM_core hc hu hN I hi ok hg hk he hs h fun D C s' m H' I' q hn f => ⟨m, hn, fun h'' sb => ?_⟩
  obtain ⟨f0, f1, f2, f3, f4, f5⟩ := f
  exact ⟨.ref D, H', I'.turned (t' := s'.toks) (fun b o hb e => (sb.2 b hb).trans e) f0 f1 f3 f4 f5, rfl, q⟩
/-- name = {..} on one line, the name a local -/
theorem ps_setDcM {i : Nat} {y : Str} {py : Pos} {kx vx tg iter : Expr} {scope : Scope} {own : List (Str × Nat)} {pos spos : Pos} {wi : TI} {g : TG} {tk tv : TE} (hc : X.calm = true) (hu : X.A.units < cLine) (hN : X.N.Nodup) (hy : X.N[i]? = some y) (hyl : X.env.scope.names.lookup y = some .local)
    (hsw : swapsWith (.DictComp kx vx [⟨tg, iter, [], 0⟩] scope pos) (some (.Name y py)) spos.line X.env = pure true) (hi : PI X tg iter wi) (ok : BlkOk X.N X.env.scope scope own)
    (hg : ∀ (s : Shared) (H : Hp) (C : Addr) (cl : List (Str × Addr)) (fp : List Addr), PG (X.blk s H scope (compEnvC scope cl C X.env) fp) tg g)
    (hk : ∀ (s : Shared) (H : Hp) (C : Addr) (cl : List (Str × Addr)) (fp : List Addr), PE (X.blk s H scope (compEnvC scope cl C X.env) fp) kx tk)
    (he : ∀ (s : Shared) (H : Hp) (C : Addr) (cl : List (Str × Addr)) (fp : List Addr), PE (X.blk s H scope (compEnvC scope cl C X.env) fp) vx tv) (hs : ∀ x, foldedSetIterable iter X.env x = pure x := by intro _; rfl) :
    PS X (.Assign [.Name y py] (.DictComp kx vx [⟨tg, iter, [], 0⟩] scope pos) spos) (tAsg (tDcM X.prog X.w X.K wi g tk tv (own.map (·.2))) (gName i)) := by
  refine ⟨fun pins s σ H D I h => ?_⟩
  rw [exec_Assign_Name_used _ _ _ _ hsw]
  refine wpAny_bind (wpAny_standAt (wpAny_bind ?_))
  show wpAny _ X.A (do let _ ← comprehension (.DictComp kx vx [⟨tg, iter, [], 0⟩] scope pos) scope X.env (firstIterPos [⟨tg, iter, [], 0⟩] pos) newDict false (eval iter X.env) (some (assign (.Name y py) X.env))) _ _ s
  have h : tDcM X.prog X.w X.K wi g tk tv (own.map (·.2)) σ H (fun x H1 => gName i x σ H1 D.nx) := h
  refine wpAny_bind (thn (dcM_core (Qf := fun _ s' => SP X pins D .next s') hc hu hN I hi ok hg hk he hs h fun L C s' m H' I' q hn f => ?_) fun _ s' hq => wpAny_pure (wpAny_pure hq))
  show wpAny _ _ (assign (.Name y py) X.env (.ref L)) _ _ _
  refine wpAny_assign_Name (store_ok2 (v := V.ref L) I' hN hy (.inl hyl) rfl (fun s2 I2 ⟨a, sb, ha⟩ => ?_) (.inr hyl))
  obtain ⟨f0, f1, f2, f3, f4, f5⟩ := f
  have haC : C ≠ a := by
    rcases ha with z | z
    · rw [z]; exact f1
    · exact fun e => f4 y a z e.symm
  refine ⟨m, hn.sameBut sb haC, fun h3 sb3 => ?_⟩
  exact ⟨_, H', I2.turned (t' := s2.toks) (fun b o hb e => (sb3.2 b hb).trans e) f0 f1 f3 f4 f5, q⟩
theorem swd_true {kx vx : Expr} {gs : List Comprehension} {scope : Scope} {pos py : Pos} {y : Str} {l : Nat} {env : Env} (hk : env.scope.kind = .function) (hy : env.scope.names.lookup y = some .local) (hl : (py.line == pos.line) = true)
    (ha : (scope.names.any fun (n, k) => n == y && (k == .local || k == .cell)) = false) : swapsWith (.DictComp kx vx gs scope pos) (some (.Name y py)) l env = pure true := by
  have ky : env.kindOf y = some .local := hy
  have kb : env.blockKind = .function := by unfold Env.blockKind; rw [hk]; rfl
  unfold swapsWith
  simp only [kb, ky, ha, Expr.pos, hl]
  rfl
end
end Sq

set_option Elab.async false
set_option linter.all false
set_option maxRecDepth 100000
set_option maxHeartbeats 4000000
/-! ## t.index(c), t a tuple of pairs of ints -/
namespace Sq
open PySem PySem.Spec PyProof.Rows L2 He
def pairD (c : Int × Int) : PyData := .tuple [.int c.1, .int c.2]
theorem eqv_pair (a b : Int × Int) : PyData.eqv (pairD a) (pairD b) = decide (a = b) := by
  show ((a.1 == b.1) && ((a.2 == b.2) && true)) = _
  obtain ⟨a1, a2⟩ := a
  obtain ⟨b1, b2⟩ := b
  by_cases h : a1 = b1 <;> by_cases h2 : a2 = b2 <;> simp [h, h2]
/-- the first place of a cell -/
def cIdx (c : Int × Int) (cs : List (Int × Int)) : Nat := @List.idxOf (Int × Int) instBEqOfDecidableEq c cs
abbrev rIndexC (K : PySem.W.Frag) : V → List V → Hp → VK → Prop := fun x xs H Q => ∃ (a b : Addr) (ps : List (Addr × Int × Int)) (c : Int × Int), x = V.ref a ∧ xs = [V.ref b] ∧ SqT K H a (ps.map fun p => V.ref p.1) ∧
  (∀ p ∈ ps, SqT K H p.1 [.int p.2.1, .int p.2.2]) ∧ SqT K H b [.int c.1, .int c.2] ∧ c ∈ ps.map (·.2) ∧ Q (.int (cIdx c (ps.map (·.2)) : Nat)) H
theorem mt_tupIndexC {X : Cx} (hu : X.A.units + 65 < cLine) : MtR X "tuple.index" (rIndexC X.K) := by
  intro pins s σ H x xs v us Q I rx rxs h
  obtain ⟨a, b, ps, c, rfl, rfl, ha, hp, hb, hc, q⟩ := h
  unfold cIdx at q
  cases rx
  cases rxs with
  | cons ry rt =>
    cases rt
    cases ry
    obtain ⟨its, rv, pl, _⟩ := I.tuple ha
    obtain ⟨bs, r1⟩ := Dp.reads I (pairD c) (.ref b) (.ref b) (.tup hb (.cons (.int _) (.cons (.int _) .nil))) rfl
    refine SeqAt.call_tuple_index (α := Int × Int) (vs := its) (ks := ps.map (·.2)) (k := c) (show s.heap.IsTuple a its.toArray from pl) ⟨?_, fun j h1 h2 => ?_⟩ hc ⟨.int _, H, I.tok _, ⟨_, rfl⟩, q⟩
    · rw [← rv.length, List.length_map, List.length_map]
    · have hj : j < ps.length := by rw [List.length_map] at h2; exact h2
      obtain ⟨w, hw, rw'⟩ := rv.get (i := j) (x := V.ref ps[j].1) (by rw [List.getElem?_map, List.getElem?_eq_getElem hj]; rfl)
      have ew : its[j] = w := by rw [List.getElem?_eq_getElem h1] at hw; exact Option.some.inj hw
      obtain rfl : w = Value.ref ps[j].1 := rw'
      obtain ⟨cs, r2⟩ := Dp.reads I (pairD ps[j].2) (.ref ps[j].1) (.ref ps[j].1) (.tup (hp _ (List.getElem_mem hj)) (.cons (.int _) (.cons (.int _) .nil))) rfl
      rw [ew, List.getElem_map, ← eqv_pair]
      refine SeqAt.eqAt_reads _ _ _ _ _ _ _ _ r2 r1 rfl rfl ?_
      have e1 : min (pairD ps[j].2).depth (pairD c).depth ≤ 64 := by
        refine Nat.le_trans (Nat.min_le_right _ _) ?_
        show PyData.depth (pairD c) ≤ 64
        simp [pairD, PyData.depth, PyData.depthAll]
      show X.A.units + 1 + _ < cLine
      omega
/-- t.index(c), t a tuple known to have no dict -/
def tTIdx (K : PySem.W.Frag) (to : TE) (t : TA) : TE := fun σ H Q => to σ H fun x H1 => ∃ a o xs, x = .ref a ∧ H1 a = some (.frz o (.tup xs)) ∧ o.dict = none ∧ t σ H1 fun ys H2 => rIndexC K x ys H2 Q
theorem pe_tidx {X : Cx} {o e : Expr} {to : TE} {t : TA} {apos cpos : Pos} (hu : X.A.units + 65 < cLine) (ho : PE X o to) (ha : PA X [e] t)
    (hbase : attributeBase o "index" X.env (eval o X.env) = eval o X.env := by rfl)
    (hfew : ((backTo cpos (starEach [e] X.env)).all (fun x => !x.1) && (backToKw cpos (keywordEach [] X.env)).all (fun x => x.1.isSome)
      && decide (([e] : List Expr).length + ([] : List Keyword).length + (if ([] : List Keyword).isEmpty then 0 else 1) < 30)) = true := by rfl)
    (hline : (apos.endLine == cpos.line) = true := by rfl) (hs : starEach [e] X.env = (false, eval e X.env) :: starEach [] X.env := by rfl) (hplain : (backTo cpos (starEach [] X.env)).any (·.1) = false := by rfl) :
    PE X (.Call (.Attribute o "index" apos) [e] [] cpos) (tTIdx X.K to t) := by
  refine ⟨fun pins s σ H Q I h => ?_⟩
  refine wpAny_Call_method_late hbase hfew hline rfl (thn (ho.run pins s σ H _ I h) fun v s1 ⟨x, H1, I1, r1, a, ob, xs, ex, ea, hd, q1⟩ => ?_)
  subst ex
  obtain rfl : v = Value.ref a := r1
  obtain ⟨g, _, its, _, ⟨o2, g2, hc, _⟩⟩ := (show ObjOk X.prog X.w H1 s1.heap a (.frz ob (.tup xs)) from I1.hok a _ ea)
  rw [g] at g2
  cases g2
  refine ⟨"tuple", "tuple.index", PySem.F.plainAttrs_tuple, PySem.F.slot_tuple_index, PySem.F.type_tuple_index, ⟨_, g, hc⟩, fun b eb => by cases eb; exact ⟨_, g, hd⟩, ?_⟩
  have hA := ha.run cpos pins s1 σ H1 _ I1 q1
  rw [hs] at hA ⊢
  refine Calls.callWith_builtin (by show (false || (backTo cpos (starEach [] X.env)).any (·.1)) = false; rw [hplain] <;> rfl) (Calls.evalArgs_plain ?_)
  exact thn hA fun us s2 ⟨vs, H2, I2, r2, q2⟩ => mt_tupIndexC hu pins s2 σ H2 (.ref a) vs (.ref a) us Q I2 rfl r2 q2
end Sq

set_option Elab.async false
set_option linter.all false
set_option maxRecDepth 100000
set_option maxHeartbeats 4000000
/-! ## cls(e, ..), cls a local name of a class -/
namespace Sq
open PySem PySem.Spec PyProof.Rows L2 He
def tMakeL (i : Nat) (C : Addr) (sp : Sp) (E : XK) (t : TA) : TE := fun σ H Q => σ[i]? = some (some (.ref C)) ∧ StX.tMakeR C sp E t σ H Q
section
variable {X : Cx} {CX : CXT} {k i : Nat} {C f : Addr} {sp : Sp} {E : XK} {x : Str} {p pos : Pos} {e : Expr} {es : List Expr} {t : TA}
theorem pe_makeL (M : Mk X.K C f) (F : FnR X.prog X.w X.K X.mg X.base CX k f sp) (hr : Room (k + 1) X.A) (hN : X.N[i]? = some x) (hv : Vis X.env.scope x) (hx : Passes CX X E) (ha : PA X (e :: es) t)
    (hdb : (x == ("__debug__" : Str)) = false := by decide) (hcd : (x == ("__classdict__" : Str)) = false := by decide)
    (he : starEach (e :: es) X.env = (false, eval e X.env) :: starEach es X.env := by rfl) (hpl : (backTo pos (starEach es X.env)).any (·.1) = false := by rfl) : PE X (.Call (.Name x p) (e :: es) [] pos) (tMakeL i C sp E t) := by
  refine ⟨fun pins s σ H Q I h => ?_⟩
  obtain ⟨hs, ht⟩ := h
  refine wpAny_Call_Name_kw (thn ((pe_var (pos := p) hN hv hdb hcd).run pins s σ H (fun v H1 => v = .ref C ∧ H1 = H) I ⟨.ref C, hs, rfl, rfl⟩) fun u s1 ⟨v, H1, I1, r1, q1⟩ => ?_)
  obtain ⟨rfl, rfl⟩ := q1
  cases r1
  refine PySem.W.callWith_K (h₀ := X.base) I1.ok.mod.kin M.kp (thn (ha.run pos pins s1 σ _ _ I1 ht) fun us s2 ⟨vs, H2, I2, r, q⟩ => ⟨I2.kIn, ?_⟩) he hpl
  exact StX.run_makeR M F hr hx I2 r q
end
end Sq

set_option Elab.async false
set_option linter.all false
set_option maxRecDepth 100000
set_option maxHeartbeats 4000000
/-! ## Walks: actions, the named moves -/
namespace Sq
open PySem PySem.Spec PyProof.Rows L2 He
section
variable {P : Program} {w : World} {K : PySem.W.Frag} {mg : Str → Option Value} {base : Heap}
theorem hu65_of {A : Around} {k : Nat} (hr : Room (k + 1) A) : A.units + 65 < cLine := by have := hr.un; omega
theorem hu0_of {A : Around} {k : Nat} (hr : Room k A) : A.units < cLine := hr.units0
/-- the source of a cell under the k-th name of NAMES -/
def srcOf (k : Nat) (n : Int) (c : Cell) : Cell := match k with
  | 0 => (c.1, c.2)
  | 1 => (c.2, c.1)
  | 2 => (n - 1 - c.2, n - 1 - c.1)
  | 3 => (n - 1 - c.1, c.2)
  | 4 => (c.1, n - 1 - c.2)
  | 5 => (n - 1 - c.1, n - 1 - c.2)
  | 6 => (n - 1 - c.2, c.1)
  | _ => (c.2, n - 1 - c.1)
/-- a dict of texts, a cell under each -/
def PlAt (H : Hp) (D : Addr) (q : List (Str × Addr × Cell)) : Prop := H D = some (.dK (q.map fun r => (Sum.inr r.1, V.ref r.2.1))) ∧ ∀ r ∈ q, CellAt H r.2.1 r.2.2
theorem PlAt.same {H H' : Hp} {D : Addr} {q : List (Str × Addr × Cell)} (h : PlAt H D q) (s : Same H H') : PlAt H' D q := ⟨s _ _ h.1, fun r hr => s _ _ (h.2 r hr)⟩
theorem putK_new {q : List (Str × Addr × Cell)} {x : Str} {t : Addr} {c : Cell} (hn : x ∉ q.map (·.1)) : putK (q.map fun r => ((Sum.inr r.1 : Key), V.ref r.2.1)) (.inr x) (.ref t) = (q ++ [(x, t, c)]).map fun r => ((Sum.inr r.1 : Key), V.ref r.2.1) := by
  unfold putK
  rw [if_neg ?_, List.map_append]
  · rfl
  · rw [Bool.not_eq_true, List.any_eq_false]
    intro kv hkv e
    obtain ⟨r, hr, rfl⟩ := List.mem_map.mp hkv
    have e1 : (Sum.inr r.1 : Key) = .inr x := of_decide_eq_true e
    cases e1
    exact hn (List.mem_map_of_mem hr)
theorem PlAt.put {H : Hp} {D t : Addr} {q : List (Str × Addr × Cell)} {x : Str} {c : Cell} (h : PlAt H D q) (ht : CellAt H t c) (hn : x ∉ q.map (·.1)) :
    PlAt (upd H D (.dK (putK (q.map fun r => (Sum.inr r.1, V.ref r.2.1)) (.inr x) (.ref t)))) D (q ++ [(x, t, c)]) := by
  refine ⟨?_, fun r hr => ?_⟩
  · rw [upd_same, putK_new hn]
  · have ne : r.2.1 ≠ D ∧ CellAt H r.2.1 r.2.2 := by
      rcases List.mem_append.mp hr with hr | hr
      · have := h.2 r hr
        exact ⟨fun e => (by rw [e] at this; have z := h.1.symm.trans this; cases z), this⟩
      · simp at hr
        subst hr
        exact ⟨fun e => (by rw [show t = D from e] at ht; have z := h.1.symm.trans ht; cases z), ht⟩
    show upd H D _ r.2.1 = _
    rw [upd_ne ne.1]
    exact ne.2
theorem PlAt.dput {H : Hp} {D t : Addr} {q : List (Str × Addr × Cell)} {x : Str} {c : Cell} (h : PlAt H D q) (ht : CellAt H t c) (hn : x ∉ q.map (·.1)) (hl : q.length ≤ 100) :
    ∃ H', DPut H D (.str x) (.ref t) H' ∧ PlAt H' D (q ++ [(x, t, c)]) ∧ ∀ b, b ≠ D → H' b = H b :=
  ⟨_, DPut.k (k := .inr x) h.1 (by rw [List.length_map, sizeLine_eq]; omega), h.put ht hn, fun b hb => upd_ne hb⟩
theorem PlAt.ne {H : Hp} {D t : Addr} {q : List (Str × Addr × Cell)} {c : Cell} (h : PlAt H D q) (ht : CellAt H t c) : t ≠ D := fun e => by rw [e] at ht; have z := h.1.symm.trans ht; cases z
theorem same_but {H0 H H' : Hp} {D : Addr} (s : Same H0 H) (hD : H0 D = none) (f : ∀ b, b ≠ D → H' b = H b) : Same H0 H' := fun b o e => by rw [f b (ne_of_none e hD)]; exact s b o e
def spSourceOf : Sp := fun vs H Q _ => ∃ (k : Nat) (n : Int) (p : Addr) (c : Cell), vs = [.str (nmL.getD k ""), .int n, .ref p] ∧ k < 8 ∧ CellAt H p c ∧ ∀ H' t, Same H H' → CellAt H' t (srcOf k n c) → Q (.ref t) H'
abbrev N_source_of : List Str := ["name", "size", "cell", "row", "column", "far_row", "far_column", "places"]
theorem sc_source_of : FnScope N_source_of ["name", "size", "cell"] (defScope (top 96)) := ⟨rfl, rfl, rfl, by decide +kernel, rfl, by decide +kernel, by decide +kernel⟩
theorem F_source_of (T : TX w K mg) : Fn P w K mg base 1 "source_of" (spSourceOf) := by
  obtain ⟨fd, F⟩ := T.fi 36
  have nd := sc_source_of.nd
  refine ⟨_, raw0 F sc_source_of (fun vs H Q E h => ?_) (fun _ _ _ _ _ _ us hl => match us, hl with | [_, _, _], _ => rfl) (fun cdv A outer s H vs Q E hr h => ?_), T.g "source_of", F.kp⟩
  · obtain ⟨m, n, p, c, rfl, hm, hp, k⟩ := h
    rfl
  · obtain ⟨m, n, p, c, rfl, hm, hp, k⟩ := h
    refine ⟨_, (pss_cons (ps_asg (pv 2) (pg_tup (n := 2) rfl (pgs_cons (pg_name (i := 3) nd rfl (Or.inl rfl)) (pgs_cons (pg_name (i := 4) nd rfl (Or.inl rfl)) pgs_nil))))
    (pss_cons (ps_par (i := 5) (j := 6) (by rfl) nd rfl rfl (by decide) rfl rfl (pa_cons (pe_op op_sub (pe_op op_sub (pv 1) (pe_int)) (pv 3)) (pa_cons (pe_op op_sub (pe_op op_sub (pv 1) (pe_int)) (pv 4)) pa_nil)) (by rfl))
    (pss_cons (ps_set (i := 7) nd rfl (Or.inl rfl) (pe_disp (pps_cons (pe_str) (pe_tup (pa_cons (pv 3) (pa_cons (pv 4) pa_nil))) (pps_cons (pe_str) (pe_tup (pa_cons (pv 4) (pa_cons (pv 3) pa_nil))) (pps_cons (pe_str) (pe_tup (pa_cons (pv 6) (pa_cons (pv 5) pa_nil))) pps_nil))) (by rfl) (by rfl) (by decide) (by decide)))
    (pss_cons (ps_asg (pe_tup (pa_cons (pe_tup (pa_cons (pv 5) (pa_cons (pv 4) pa_nil))) (pa_cons (pe_tup (pa_cons (pv 3) (pa_cons (pv 6) pa_nil))) (pa_cons (pe_tup (pa_cons (pv 5) (pa_cons (pv 6) pa_nil))) pa_nil)))) (pg_tup (n := 3) rfl (pgs_cons (pg_sub (pv 7) (pe_str) (set_dict (hu_of hr))) (pgs_cons (pg_sub (pv 7) (pe_str) (set_dict (hu_of hr))) (pgs_cons (pg_sub (pv 7) (pe_str) (set_dict (hu_of hr))) pgs_nil)))))
    (pss_cons (ps_asg (pe_tup (pa_cons (pe_tup (pa_cons (pv 6) (pa_cons (pv 3) pa_nil))) (pa_cons (pe_tup (pa_cons (pv 4) (pa_cons (pv 5) pa_nil))) pa_nil))) (pg_tup (n := 2) rfl (pgs_cons (pg_sub (pv 7) (pe_str) (set_dict (hu_of hr))) (pgs_cons (pg_sub (pv 7) (pe_str) (set_dict (hu_of hr))) pgs_nil))))
    (pss_one (ps_ret (pe_dget (hu_of hr) (pv 7) (pv 0) (fun _ _ => rfl))))))))), ?_⟩
    refine seqG fun R hR => ?_
    simp only [tSeq, tRet, tRetN, tAsg, tIf, tIfS, tNext, tTest, tB, cx_K, cx_w, cx_nK, cx_nw, tOp, tUn, tVar, tC, tCons, tNil, tTup, tLst, tF, tM1, tCB, tAnd, tOr, tNot, tAndV, tOrV, tNotV, tChain, tFld, tPart, tNoPart, tSl, rU, rI0, rI, rEq, rNe, rIxD, rIxL, rIxT, rLen, rIsi, rLenQ, rTupOf, rIn, rSlL, rNewStrs, rAppend, rCat, gUnl, tDrop, wipe, List.foldl_cons, List.foldl_nil, StX.tMakeR, sFld, tLenSetN, tDictZip, rIndex, rSorted, rSortedT, rSetOfT, tPar, tPar3, tBM, rSum, rAll, rAny, tNever, gName, gTup, gCons, gNil, L2.start, List.map_cons, List.map_nil, List.length_cons, List.length_nil, List.cons_append, List.nil_append, List.set_cons_zero, List.set_cons_succ, List.getElem?_cons_zero, List.getElem?_cons_succ, Option.some.injEq, V.int.injEq, V.str.injEq, V.bl.injEq, V.ref.injEq, V.ty.injEq, List.cons.injEq, exists_and_left, exists_and_right, exists_eq_left, exists_eq_left', exists_eq, exists_eq', and_true, true_and, exists_const, List.replicate, Nat.sub_self, Nat.reduceAdd, Nat.reduceSub, if_true, if_false, Bool.false_eq_true, ite_true, ite_false, reduceIte]
    refine ⟨_, .of hp, rfl, _, _, rfl, _, _, rfl, rfl, ?_⟩
    rw [hR]; clear hR R
    refine seqG fun R hR => ?_
    simp only [tSeq, tRet, tRetN, tAsg, tIf, tIfS, tNext, tTest, tB, cx_K, cx_w, cx_nK, cx_nw, tOp, tUn, tVar, tC, tCons, tNil, tTup, tLst, tF, tM1, tCB, tAnd, tOr, tNot, tAndV, tOrV, tNotV, tChain, tFld, tPart, tNoPart, tSl, rU, rI0, rI, rEq, rNe, rIxD, rIxL, rIxT, rLen, rIsi, rLenQ, rTupOf, rIn, rSlL, rNewStrs, rAppend, rCat, gUnl, tDrop, wipe, List.foldl_cons, List.foldl_nil, StX.tMakeR, sFld, tLenSetN, tDictZip, rIndex, rSorted, rSortedT, rSetOfT, tPar, tPar3, tBM, rSum, rAll, rAny, tNever, gName, gTup, gCons, gNil, L2.start, List.map_cons, List.map_nil, List.length_cons, List.length_nil, List.cons_append, List.nil_append, List.set_cons_zero, List.set_cons_succ, List.getElem?_cons_zero, List.getElem?_cons_succ, Option.some.injEq, V.int.injEq, V.str.injEq, V.bl.injEq, V.ref.injEq, V.ty.injEq, List.cons.injEq, exists_and_left, exists_and_right, exists_eq_left, exists_eq_left', exists_eq, exists_eq', and_true, true_and, exists_const, List.replicate, Nat.sub_self, Nat.reduceAdd, Nat.reduceSub, if_true, if_false, Bool.false_eq_true, ite_true, ite_false, reduceIte]
    rw [hR]; clear hR R
    refine ⟨_, _, ⟨rfl, rfl⟩, ?_⟩
    refine seqG fun R hR => ?_
    simp only [tSeq, tRet, tRetN, tAsg, tIf, tIfS, tNext, tTest, tB, cx_K, cx_w, cx_nK, cx_nw, tOp, tUn, tVar, tC, tCons, tNil, tTup, tLst, tF, tM1, tCB, tAnd, tOr, tNot, tAndV, tOrV, tNotV, tChain, tFld, tPart, tNoPart, tSl, rU, rI0, rI, rEq, rNe, rIxD, rIxL, rIxT, rLen, rIsi, rLenQ, rTupOf, rIn, rSlL, rNewStrs, rAppend, rCat, gUnl, tDrop, wipe, List.foldl_cons, List.foldl_nil, StX.tMakeR, sFld, tLenSetN, tDictZip, rIndex, rSorted, rSortedT, rSetOfT, tPar, tPar3, tBM, rSum, rAll, rAny, tNever, gName, gTup, gCons, gNil, L2.start, List.map_cons, List.map_nil, List.length_cons, List.length_nil, List.cons_append, List.nil_append, List.set_cons_zero, List.set_cons_succ, List.getElem?_cons_zero, List.getElem?_cons_succ, Option.some.injEq, V.int.injEq, V.str.injEq, V.bl.injEq, V.ref.injEq, V.ty.injEq, List.cons.injEq, exists_and_left, exists_and_right, exists_eq_left, exists_eq_left', exists_eq, exists_eq', and_true, true_and, exists_const, List.replicate, Nat.sub_self, Nat.reduceAdd, Nat.reduceSub, if_true, if_false, Bool.false_eq_true, ite_true, ite_false, reduceIte, tDisp, tPairs]
    refine fun D hD => ⟨by rw [sizeLine_eq]; decide, fun t1 h1 => ⟨by rw [sizeLine_eq]; decide, fun t2 h2 => ⟨by rw [sizeLine_eq]; decide, fun t3 h3 => ?_⟩⟩⟩
    have n1 : t1 ≠ D := fun e => by rw [e, upd_same] at h1; cases h1
    have n2 : t2 ≠ D := fun e => by rw [e, upd_ne (Ne.symm n1), upd_same] at h2; cases h2
    have n21 : t2 ≠ t1 := fun e => by rw [e, upd_same] at h2; cases h2
    have n31 : t3 ≠ t1 := fun e => by rw [e, upd_ne (Ne.symm n21), upd_same] at h3; cases h3
    have n32 : t3 ≠ t2 := fun e => by rw [e, upd_same] at h3; cases h3
    have n3 : t3 ≠ D := fun e => by rw [e, upd_ne (Ne.symm n2), upd_ne (Ne.symm n1), upd_same] at h3; cases h3
    have s0 : Same H (upd (upd (upd (upd H D (.dK [])) t1 (.tup [V.int c.1, V.int c.2])) t2 (.tup [V.int c.2, V.int c.1])) t3 (.tup [V.int (n - 1 - c.2), V.int (n - 1 - c.1)])) :=
      Same.upd (Same.upd (Same.upd (Same.upd (Same.refl H) hD) h1) h2) h3
    have e1 : CellAt (upd (upd (upd (upd H D (.dK [])) t1 (.tup [V.int c.1, V.int c.2])) t2 (.tup [V.int c.2, V.int c.1])) t3 (.tup [V.int (n - 1 - c.2), V.int (n - 1 - c.1)])) t1 (c.1, c.2) := by
      unfold CellAt; rw [upd_ne (Ne.symm n31), upd_ne (Ne.symm n21), upd_same]
    have e2 : CellAt (upd (upd (upd (upd H D (.dK [])) t1 (.tup [V.int c.1, V.int c.2])) t2 (.tup [V.int c.2, V.int c.1])) t3 (.tup [V.int (n - 1 - c.2), V.int (n - 1 - c.1)])) t2 (c.2, c.1) := by
      unfold CellAt; rw [upd_ne (Ne.symm n32), upd_same]
    have e3 : CellAt (upd (upd (upd (upd H D (.dK [])) t1 (.tup [V.int c.1, V.int c.2])) t2 (.tup [V.int c.2, V.int c.1])) t3 (.tup [V.int (n - 1 - c.2), V.int (n - 1 - c.1)])) t3 (n - 1 - c.2, n - 1 - c.1) := upd_same
    have eD : (upd (upd (upd (upd H D (.dK [])) t1 (.tup [V.int c.1, V.int c.2])) t2 (.tup [V.int c.2, V.int c.1])) t3 (.tup [V.int (n - 1 - c.2), V.int (n - 1 - c.1)])) D = some (.dK []) := by
      rw [upd_ne (Ne.symm n3), upd_ne (Ne.symm n2), upd_ne (Ne.symm n1), upd_same]
    generalize upd (upd (upd (upd H D (.dK [])) t1 (.tup [V.int c.1, V.int c.2])) t2 (.tup [V.int c.2, V.int c.1])) t3 (.tup [V.int (n - 1 - c.2), V.int (n - 1 - c.1)]) = H1 at s0 e1 e2 e3 eD ⊢
    refine ⟨eD, [(.inr "same", .ref t1), (.inr "transpose", .ref t2), (.inr "slant", .ref t3)], rfl, by show (3 : Nat) ≤ 15; decide, ?_⟩
    have em : mergeK [] [((.inr "same" : Key), V.ref t1), (.inr "transpose", .ref t2), (.inr "slant", .ref t3)] = [(.inr "same", .ref t1), (.inr "transpose", .ref t2), (.inr "slant", .ref t3)] := rfl
    rw [em]
    have p1 : PlAt (upd H1 D (.dK [((.inr "same" : Key), V.ref t1), (.inr "transpose", .ref t2), (.inr "slant", .ref t3)])) D [("same", t1, c.1, c.2), ("transpose", t2, c.2, c.1), ("slant", t3, n - 1 - c.2, n - 1 - c.1)] := by
      refine ⟨upd_same, fun r hr => ?_⟩
      simp only [List.mem_cons, List.not_mem_nil, or_false] at hr
      rcases hr with rfl | rfl | rfl
      · show upd H1 D _ t1 = _
        rw [upd_ne n1]; exact e1
      · show upd H1 D _ t2 = _
        rw [upd_ne n2]; exact e2
      · show upd H1 D _ t3 = _
        rw [upd_ne n3]; exact e3
    have sD : Same H (upd H1 D (.dK [((.inr "same" : Key), V.ref t1), (.inr "transpose", .ref t2), (.inr "slant", .ref t3)])) := Same.updD s0 hD
    generalize upd H1 D (.dK [((.inr "same" : Key), V.ref t1), (.inr "transpose", .ref t2), (.inr "slant", .ref t3)]) = H2 at p1 sD ⊢
    clear e1 e2 e3 eD s0 em n1 n2 n21 n31 n32 n3 h1 h2 h3
    rw [hR]; clear hR R
    refine seqG fun R hR => ?_
    simp only [tSeq, tRet, tRetN, tAsg, tIf, tIfS, tNext, tTest, tB, cx_K, cx_w, cx_nK, cx_nw, tOp, tUn, tVar, tC, tCons, tNil, tTup, tLst, tF, tM1, tCB, tAnd, tOr, tNot, tAndV, tOrV, tNotV, tChain, tFld, tPart, tNoPart, tSl, rU, rI0, rI, rEq, rNe, rIxD, rIxL, rIxT, rLen, rIsi, rLenQ, rTupOf, rIn, rSlL, rNewStrs, rAppend, rCat, gUnl, tDrop, wipe, List.foldl_cons, List.foldl_nil, StX.tMakeR, sFld, tLenSetN, tDictZip, rIndex, rSorted, rSortedT, rSetOfT, tPar, tPar3, tBM, rSum, rAll, rAny, tNever, gName, gTup, gCons, gNil, L2.start, List.map_cons, List.map_nil, List.length_cons, List.length_nil, List.cons_append, List.nil_append, List.set_cons_zero, List.set_cons_succ, List.getElem?_cons_zero, List.getElem?_cons_succ, Option.some.injEq, V.int.injEq, V.str.injEq, V.bl.injEq, V.ref.injEq, V.ty.injEq, List.cons.injEq, exists_and_left, exists_and_right, exists_eq_left, exists_eq_left', exists_eq, exists_eq', and_true, true_and, exists_const, List.replicate, Nat.sub_self, Nat.reduceAdd, Nat.reduceSub, if_true, if_false, Bool.false_eq_true, ite_true, ite_false, reduceIte, gSub, rSetD]
    refine ⟨by rw [sizeLine_eq]; decide, fun u1 h1 => ⟨by rw [sizeLine_eq]; decide, fun u2 h2 => ⟨by rw [sizeLine_eq]; decide, fun u3 h3 => ⟨by rw [sizeLine_eq]; decide, fun u4 h4 => ?_⟩⟩⟩⟩
    have s3 := Same.upd (o := .tup [V.int (n - 1 - c.1), V.int c.2]) (Same.refl H2) h1
    have s4 := Same.upd (o := .tup [V.int c.1, V.int (n - 1 - c.2)]) s3 h2
    have s5 := Same.upd (o := .tup [V.int (n - 1 - c.1), V.int (n - 1 - c.2)]) s4 h3
    have s6 := Same.upd (o := .tup [V.ref u1, V.ref u2, V.ref u3]) s5 h4
    have f1 := Same.upd (o := .tup [V.ref u1, V.ref u2, V.ref u3]) (Same.upd (o := .tup [V.int (n - 1 - c.1), V.int (n - 1 - c.2)]) (Same.upd (o := .tup [V.int c.1, V.int (n - 1 - c.2)]) (Same.refl (upd H2 u1 (.tup [V.int (n - 1 - c.1), V.int c.2]))) h2) h3) h4 u1 _ upd_same
    have f2 := Same.upd (o := .tup [V.ref u1, V.ref u2, V.ref u3]) (Same.upd (o := .tup [V.int (n - 1 - c.1), V.int (n - 1 - c.2)]) (Same.refl (upd (upd H2 u1 (.tup [V.int (n - 1 - c.1), V.int c.2])) u2 (.tup [V.int c.1, V.int (n - 1 - c.2)]))) h3) h4 u2 _ upd_same
    have f3 := Same.upd (o := .tup [V.ref u1, V.ref u2, V.ref u3]) (Same.refl (upd (upd (upd H2 u1 (.tup [V.int (n - 1 - c.1), V.int c.2])) u2 (.tup [V.int c.1, V.int (n - 1 - c.2)])) u3 (.tup [V.int (n - 1 - c.1), V.int (n - 1 - c.2)]))) h4 u3 _ upd_same
    refine ⟨[V.ref u1, V.ref u2, V.ref u3], .of upd_same, rfl, _, _, rfl, ?_⟩
    generalize upd (upd (upd (upd H2 u1 (.tup [V.int (n - 1 - c.1), V.int c.2])) u2 (.tup [V.int c.1, V.int (n - 1 - c.2)])) u3 (.tup [V.int (n - 1 - c.1), V.int (n - 1 - c.2)])) u4 (.tup [V.ref u1, V.ref u2, V.ref u3]) = H3 at s6 f1 f2 f3 ⊢
    have sD3 := sD.trans s6
    have p3 := p1.same s6
    obtain ⟨Ha, d1, pa, fa⟩ := p3.dput (t := u1) (c := (n - 1 - c.1, c.2)) (x := "upside") f1 (show ("upside" : Str) ∉ (["same", "transpose", "slant"] : List Str) by decide) (show (3 : Nat) ≤ 100 by decide)
    obtain ⟨Hb, d2, pb, fb⟩ := pa.dput (t := u2) (c := (c.1, n - 1 - c.2)) (x := "mirror") (by show Ha u2 = _; rw [fa _ (p3.ne (t := u2) (c := (c.1, n - 1 - c.2)) f2)]; exact f2) (show ("mirror" : Str) ∉ (["same", "transpose", "slant", "upside"] : List Str) by decide) (show (4 : Nat) ≤ 100 by decide)
    obtain ⟨Hc, d3, pc, fc⟩ := pb.dput (t := u3) (c := (n - 1 - c.1, n - 1 - c.2)) (x := "half") (by show Hb u3 = _; rw [fb _ (p3.ne (t := u3) (c := (n - 1 - c.1, n - 1 - c.2)) f3), fa _ (p3.ne (t := u3) (c := (n - 1 - c.1, n - 1 - c.2)) f3)]; exact f3) (show ("half" : Str) ∉ (["same", "transpose", "slant", "upside", "mirror"] : List Str) by decide) (show (5 : Nat) ≤ 100 by decide)
    refine ⟨_, d1, _, _, rfl, _, d2, _, _, rfl, _, d3, rfl, ?_⟩
    have sc := same_but (same_but (same_but sD3 hD fa) hD fb) hD fc
    clear d1 d2 d3 fa fb fc pa pb p3 sD3 s6 f1 f2 f3 p1 sD s3 s4 s5 h1 h2 h3 h4
    rw [hR]; clear hR R
    refine seqG fun R hR => ?_
    simp only [tSeq, tRet, tRetN, tAsg, tIf, tIfS, tNext, tTest, tB, cx_K, cx_w, cx_nK, cx_nw, tOp, tUn, tVar, tC, tCons, tNil, tTup, tLst, tF, tM1, tCB, tAnd, tOr, tNot, tAndV, tOrV, tNotV, tChain, tFld, tPart, tNoPart, tSl, rU, rI0, rI, rEq, rNe, rIxD, rIxL, rIxT, rLen, rIsi, rLenQ, rTupOf, rIn, rSlL, rNewStrs, rAppend, rCat, gUnl, tDrop, wipe, List.foldl_cons, List.foldl_nil, StX.tMakeR, sFld, tLenSetN, tDictZip, rIndex, rSorted, rSortedT, rSetOfT, tPar, tPar3, tBM, rSum, rAll, rAny, tNever, gName, gTup, gCons, gNil, L2.start, List.map_cons, List.map_nil, List.length_cons, List.length_nil, List.cons_append, List.nil_append, List.set_cons_zero, List.set_cons_succ, List.getElem?_cons_zero, List.getElem?_cons_succ, Option.some.injEq, V.int.injEq, V.str.injEq, V.bl.injEq, V.ref.injEq, V.ty.injEq, List.cons.injEq, exists_and_left, exists_and_right, exists_eq_left, exists_eq_left', exists_eq, exists_eq', and_true, true_and, exists_const, List.replicate, Nat.sub_self, Nat.reduceAdd, Nat.reduceSub, if_true, if_false, Bool.false_eq_true, ite_true, ite_false, reduceIte, gSub, rSetD]
    refine ⟨by rw [sizeLine_eq]; decide, fun v1 h1 => ⟨by rw [sizeLine_eq]; decide, fun v2 h2 => ⟨by rw [sizeLine_eq]; decide, fun v3 h3 => ?_⟩⟩⟩
    have s3 := Same.upd (o := .tup [V.int (n - 1 - c.2), V.int c.1]) (Same.refl Hc) h1
    have s4 := Same.upd (o := .tup [V.int c.2, V.int (n - 1 - c.1)]) s3 h2
    have s5 := Same.upd (o := .tup [V.ref v1, V.ref v2]) s4 h3
    have f1 := Same.upd (o := .tup [V.ref v1, V.ref v2]) (Same.upd (o := .tup [V.int c.2, V.int (n - 1 - c.1)]) (Same.refl (upd Hc v1 (.tup [V.int (n - 1 - c.2), V.int c.1]))) h2) h3 v1 _ upd_same
    have f2 := Same.upd (o := .tup [V.ref v1, V.ref v2]) (Same.refl (upd (upd Hc v1 (.tup [V.int (n - 1 - c.2), V.int c.1])) v2 (.tup [V.int c.2, V.int (n - 1 - c.1)]))) h3 v2 _ upd_same
    refine ⟨[V.ref v1, V.ref v2], .of upd_same, rfl, _, _, rfl, ?_⟩
    generalize upd (upd (upd Hc v1 (.tup [V.int (n - 1 - c.2), V.int c.1])) v2 (.tup [V.int c.2, V.int (n - 1 - c.1)])) v3 (.tup [V.ref v1, V.ref v2]) = H3 at s5 f1 f2 ⊢
    have p3 := pc.same s5
    obtain ⟨Hd, d1, pd, fd'⟩ := p3.dput (t := v1) (c := (n - 1 - c.2, c.1)) (x := "right") f1 (show ("right" : Str) ∉ (["same", "transpose", "slant", "upside", "mirror", "half"] : List Str) by decide) (show (6 : Nat) ≤ 100 by decide)
    obtain ⟨He, d2, pe, fe⟩ := pd.dput (t := v2) (c := (c.2, n - 1 - c.1)) (x := "left") (by show Hd v2 = _; rw [fd' _ (p3.ne (t := v2) (c := (c.2, n - 1 - c.1)) f2)]; exact f2) (show ("left" : Str) ∉ (["same", "transpose", "slant", "upside", "mirror", "half", "right"] : List Str) by decide) (show (7 : Nat) ≤ 100 by decide)
    refine ⟨_, d1, _, _, rfl, _, d2, rfl, ?_⟩
    have se := same_but (same_but (sc.trans s5) hD fd') hD fe
    rw [hR]; clear hR R
    simp only [tSeq, tRet, tRetN, tAsg, tIf, tIfS, tNext, tTest, tB, cx_K, cx_w, cx_nK, cx_nw, tOp, tUn, tVar, tC, tCons, tNil, tTup, tLst, tF, tM1, tCB, tAnd, tOr, tNot, tAndV, tOrV, tNotV, tChain, tFld, tPart, tNoPart, tSl, rU, rI0, rI, rEq, rNe, rIxD, rIxL, rIxT, rLen, rIsi, rLenQ, rTupOf, rIn, rSlL, rNewStrs, rAppend, rCat, gUnl, tDrop, wipe, List.foldl_cons, List.foldl_nil, StX.tMakeR, sFld, tLenSetN, tDictZip, rIndex, rSorted, rSortedT, rSetOfT, tPar, tPar3, tBM, rSum, rAll, rAny, tNever, gName, gTup, gCons, gNil, L2.start, List.map_cons, List.map_nil, List.length_cons, List.length_nil, List.cons_append, List.nil_append, List.set_cons_zero, List.set_cons_succ, List.getElem?_cons_zero, List.getElem?_cons_succ, Option.some.injEq, V.int.injEq, V.str.injEq, V.bl.injEq, V.ref.injEq, V.ty.injEq, List.cons.injEq, exists_and_left, exists_and_right, exists_eq_left, exists_eq_left', exists_eq, exists_eq', and_true, true_and, exists_const, List.replicate, Nat.sub_self, Nat.reduceAdd, Nat.reduceSub, if_true, if_false, Bool.false_eq_true, ite_true, ite_false, reduceIte, tDGet]
    have fin : ∀ (kvs : List (Key × V)) (hk : He D = some (.dK kvs)) (x : Str) (t : Addr), valV kvs (Sum.inr x : Key) = some (V.ref t) → CellAt He t (srcOf m n c) → x = nmL.getD m "" → ∃ v, DGet He D (.str (nmL.getD m "")) (some v) ∧ Q v He := by
      intro kvs hk x t hv hc hx
      rw [← hx]
      refine ⟨.ref t, ?_, k _ t se hc⟩
      rw [← hv]
      exact DGet.k (k := .inr x) hk
    match m, hm with
    | 0, _ => exact fin _ pe.1 "same" t1 rfl (pe.2 ("same", t1, c.1, c.2) (by simp)) rfl
    | 1, _ => exact fin _ pe.1 "transpose" t2 rfl (pe.2 ("transpose", t2, c.2, c.1) (by simp)) rfl
    | 2, _ => exact fin _ pe.1 "slant" t3 rfl (pe.2 ("slant", t3, n - 1 - c.2, n - 1 - c.1) (by simp)) rfl
    | 3, _ => exact fin _ pe.1 "upside" u1 rfl (pe.2 ("upside", u1, n - 1 - c.1, c.2) (by simp)) rfl
    | 4, _ => exact fin _ pe.1 "mirror" u2 rfl (pe.2 ("mirror", u2, c.1, n - 1 - c.2) (by simp)) rfl
    | 5, _ => exact fin _ pe.1 "half" u3 rfl (pe.2 ("half", u3, n - 1 - c.1, n - 1 - c.2) (by simp)) rfl
    | 6, _ => exact fin _ pe.1 "right" v1 rfl (pe.2 ("right", v1, n - 1 - c.2, c.1) (by simp)) rfl
    | 7, _ => exact fin _ pe.1 "left" v2 rfl (pe.2 ("left", v2, c.2, n - 1 - c.1) (by simp)) rfl
/-- the table of the m-th named move on cells cs -/
def srcTab (m : Nat) (n : Int) (cs : List Cell) : List Int := cs.map fun c => (startsOf cs.length).getD (cIdx (srcOf m n c) cs) 0
theorem srcTab_get {m : Nat} {n : Int} {cs : List Cell} {a : Nat} {c : Cell} (h : cs[a]? = some c) : (srcTab m n cs).getD a 0 = (startsOf cs.length).getD (cIdx (srcOf m n c) cs) 0 := by
  unfold srcTab
  rw [List.getD_eq_getElem?_getD, List.getElem?_map, h, Option.map_some, Option.getD_some]
theorem cIdx_cons (c x : Cell) (xs : List Cell) : cIdx c (x :: xs) = if x = c then 0 else cIdx c xs + 1 := by
  unfold cIdx
  show @List.idxOf (Int × Int) instBEqOfDecidableEq c (x :: xs) = _
  rw [@List.idxOf_cons (Int × Int) x xs c instBEqOfDecidableEq]
  by_cases h : x = c
  · rw [if_pos h, show (@BEq.beq _ instBEqOfDecidableEq x c) = true from decide_eq_true h]; rfl
  · rw [if_neg h, show (@BEq.beq _ instBEqOfDecidableEq x c) = false from decide_eq_false h]; rfl
theorem cIdx_at {c : Cell} : ∀ {xs : List Cell}, c ∈ xs → xs[cIdx c xs]? = some c
  | x :: xs, h => by
    rw [cIdx_cons]
    by_cases e : x = c
    · rw [if_pos e, e]; rfl
    · rw [if_neg e]
      rcases List.mem_cons.mp h with q | q
      · exact absurd q.symm e
      · exact cIdx_at q
theorem cIdx_lt {c : Cell} {cs : List Cell} (h : c ∈ cs) : cIdx c cs < cs.length := (List.getElem?_eq_some_iff.mp (cIdx_at h)).1
theorem starts_len (m : Nat) : (startsOf m).length = m := by
  unfold startsOf
  rw [List.length_map, List.length_range]
theorem ints_at {xs : List Int} {i : Nat} (h : i < xs.length) : atI (xs.map V.int) (i : Nat) = some (V.int (xs.getD i 0)) := by
  refine atI_nat ?_
  rw [List.getElem?_map, List.getD_eq_getElem?_getD, List.getElem?_eq_getElem h, Option.map_some, Option.getD_some]
theorem srcTab_back {m N : Nat} {n : Int} {cs : List Cell} (h : N = cs.length) : (List.range N).map (fun a => V.int ((srcTab m n cs).getD a 0)) = (srcTab m n cs).map V.int := by
  have e1 : N = (srcTab m n cs).length := by
    unfold srcTab
    rw [List.length_map, h]
  rw [e1]
  have := congrArg (List.map V.int) (range_get (srcTab m n cs))
  rw [List.map_map] at this
  exact this
theorem src_eight {m : Nat} {n i j : Int} {c : Cell} (h : c ∈ eight n i j) : srcOf m n c ∈ eight n i j := by
  obtain ⟨a, b⟩ := c
  have e : ∀ x : Int, n - 1 - (n - 1 - x) = x := fun x => by omega
  unfold eight at h
  simp only [List.mem_cons, List.not_mem_nil, or_false, Prod.mk.injEq] at h
  rcases h with ⟨rfl, rfl⟩ | ⟨rfl, rfl⟩ | ⟨rfl, rfl⟩ | ⟨rfl, rfl⟩ | ⟨rfl, rfl⟩ | ⟨rfl, rfl⟩ | ⟨rfl, rfl⟩ | ⟨rfl, rfl⟩ <;> (match m with
  | 0 => simp [srcOf, eight, e]
  | 1 => simp [srcOf, eight, e]
  | 2 => simp [srcOf, eight, e]
  | 3 => simp [srcOf, eight, e]
  | 4 => simp [srcOf, eight, e]
  | 5 => simp [srcOf, eight, e]
  | 6 => simp [srcOf, eight, e]
  | _ + 7 => simp [srcOf, eight, e])
def kSize (i : Nat) : Int := 2 * ((kindAt i).1 + (kindAt i).2.1) + (kindAt i).2.2 + 1
def kI (i : Nat) : Int := (kindAt i).1
def kJ (i : Nat) : Int := (kindAt i).1 + (kindAt i).2.1
theorem kind_in : ∀ i, i < 24 → 0 ≤ kI i ∧ kI i < kSize i ∧ 0 ≤ kJ i ∧ kJ i < kSize i := by decide +kernel
def spNamedMoves (K : PySem.W.Frag) : Sp := fun vs H Q _ => ∃ (m : Nat) (i : Nat), vs = [.str (nmL.getD m ""), .ref (kiAd K i)] ∧ m < 8 ∧ i < 24 ∧
  ∀ H' t cs, Same H H' → H t = none → Imgs (kSize i) (kI i) (kJ i) cs → H' t = some (.tup ((movesOf (srcTab m (kSize i) cs)).map V.int)) → Q (.ref t) H'
abbrev N_named_moves : List Str := ["name", "kind", "size", "cells", "tables", "cell"]
theorem sc_named_moves : FnScope N_named_moves ["name", "kind"] (defScope (top 97)) := ⟨rfl, rfl, rfl, by decide +kernel, rfl, by decide +kernel, by decide +kernel⟩
theorem F_named_moves (T : TX w K mg) : Fn P w K mg base 2 "named_moves" (spNamedMoves K) := by
  obtain ⟨fd, F⟩ := T.fi 37
  have nd := sc_named_moves.nd
  have F_least_size := F_least_size (P := P) (base := base) T
  have F_corner := F_corner (P := P) (base := base) T
  have F_images_of := F_images_of (P := P) (base := base) T
  have F_starts := F_starts (P := P) (base := base) T
  have F_source_of := F_source_of (P := P) (base := base) T
  have F_moves_from := F_moves_from (P := P) (base := base) T
  refine ⟨_, raw0 F sc_named_moves (fun vs H Q E h => ?_) (fun _ _ _ _ _ _ us hl => match us, hl with | [_, _], _ => rfl) (fun cdv A outer s H vs Q E hr h => ?_), T.g "named_moves", F.kp⟩
  · obtain ⟨m, i, rfl, hm, hi, k⟩ := h
    rfl
  · obtain ⟨m, i, rfl, hm, hi, k⟩ := h
    refine ⟨_, (pss_cons (ps_set (i := 2) nd rfl (Or.inr rfl) (pe_f F_least_size hr (pa_cons (pv 1) pa_nil)))
    (pss_cons (ps_set (i := 3) nd rfl (Or.inr rfl) (pe_f F_images_of hr (pa_cons (pv 2) (pa_cons (pe_f F_corner hr (pa_cons (pv 1) pa_nil)) pa_nil))))
    (pss_cons (ps_set (i := 4) nd rfl (Or.inr rfl) (pe_f F_starts hr (pa_cons (pe_callB call_len_seq (by rfl) (T.z "len") (by decide +kernel) (pa_cons (pv 3) pa_nil)) pa_nil)))
    (pss_one (ps_ret (pe_f F_moves_from hr (pa_cons (pe_lc (own := [("cell", 5)]) (g := gName 5) (tt := tYes) (by rfl) nd (pi_tup (pv 3)) (blkOk_by (own := [("cell", 5)]) (N := N_named_moves) (sc := (defScope (top 97))) (by decide +kernel)) (fun _ _ _ _ _ => (pg_name (i := 5) nd rfl (Or.inl rfl))) (fun _ _ _ _ _ => pts_nil) (fun _ _ _ _ _ => (pe_ix (r := rIxL K) ix_list (pv 4) (pe_tidx (hu65_of hr) (pv 3) (pa_cons (pe_f F_source_of hr (pa_cons (pv 0) (pa_cons (pv 2) (pa_cons (pv 5) pa_nil)))) pa_nil) : PE _ _ (tTIdx K _ _)) (fun _ _ => rfl)))) pa_nil))))))), ?_⟩
    refine seqG fun R hR => ?_
    simp only [tSeq, tRet, tRetN, tAsg, tIf, tIfS, tNext, tTest, tB, cx_K, cx_w, cx_nK, cx_nw, tOp, tUn, tVar, tC, tCons, tNil, tTup, tLst, tF, tM1, tCB, tAnd, tOr, tNot, tAndV, tOrV, tNotV, tChain, tFld, tPart, tNoPart, tSl, rU, rI0, rI, rEq, rNe, rIxD, rIxL, rIxT, rLen, rIsi, rLenQ, rTupOf, rIn, rSlL, rNewStrs, rAppend, rCat, gUnl, tDrop, wipe, List.foldl_cons, List.foldl_nil, StX.tMakeR, sFld, tLenSetN, tDictZip, rIndex, rSorted, rSortedT, rSetOfT, tPar, tPar3, tBM, rSum, rAll, rAny, tNever, gName, gTup, gCons, gNil, L2.start, List.map_cons, List.map_nil, List.length_cons, List.length_nil, List.cons_append, List.nil_append, List.set_cons_zero, List.set_cons_succ, List.getElem?_cons_zero, List.getElem?_cons_succ, Option.some.injEq, V.int.injEq, V.str.injEq, V.bl.injEq, V.ref.injEq, V.ty.injEq, List.cons.injEq, exists_and_left, exists_and_right, exists_eq_left, exists_eq_left', exists_eq, exists_eq', and_true, true_and, exists_const, List.replicate, Nat.sub_self, Nat.reduceAdd, Nat.reduceSub, if_true, if_false, Bool.false_eq_true, ite_true, ite_false, reduceIte]
    refine ⟨_, _, _, _, rfl, T.kd hi, ?_⟩
    rw [hR]; clear hR R
    refine seqG fun R hR => ?_
    simp only [tSeq, tRet, tRetN, tAsg, tIf, tIfS, tNext, tTest, tB, cx_K, cx_w, cx_nK, cx_nw, tOp, tUn, tVar, tC, tCons, tNil, tTup, tLst, tF, tM1, tCB, tAnd, tOr, tNot, tAndV, tOrV, tNotV, tChain, tFld, tPart, tNoPart, tSl, rU, rI0, rI, rEq, rNe, rIxD, rIxL, rIxT, rLen, rIsi, rLenQ, rTupOf, rIn, rSlL, rNewStrs, rAppend, rCat, gUnl, tDrop, wipe, List.foldl_cons, List.foldl_nil, StX.tMakeR, sFld, tLenSetN, tDictZip, rIndex, rSorted, rSortedT, rSetOfT, tPar, tPar3, tBM, rSum, rAll, rAny, tNever, gName, gTup, gCons, gNil, L2.start, List.map_cons, List.map_nil, List.length_cons, List.length_nil, List.cons_append, List.nil_append, List.set_cons_zero, List.set_cons_succ, List.getElem?_cons_zero, List.getElem?_cons_succ, Option.some.injEq, V.int.injEq, V.str.injEq, V.bl.injEq, V.ref.injEq, V.ty.injEq, List.cons.injEq, exists_and_left, exists_and_right, exists_eq_left, exists_eq_left', exists_eq, exists_eq', and_true, true_and, exists_const, List.replicate, Nat.sub_self, Nat.reduceAdd, Nat.reduceSub, if_true, if_false, Bool.false_eq_true, ite_true, ite_false, reduceIte]
    refine ⟨_, _, _, _, rfl, T.kd hi, fun H1 tc s1 htc ec => ?_⟩
    obtain ⟨b1, b2, b3, b4⟩ := kind_in i hi
    refine ⟨kSize i, kI i, kJ i, tc, rfl, ec, b1, b2, b3, b4, fun H2 ta qs s2 im cel => ?_⟩
    rw [hR]; clear hR R
    refine seqG fun R hR => ?_
    simp only [tSeq, tRet, tRetN, tAsg, tIf, tIfS, tNext, tTest, tB, cx_K, cx_w, cx_nK, cx_nw, tOp, tUn, tVar, tC, tCons, tNil, tTup, tLst, tF, tM1, tCB, tAnd, tOr, tNot, tAndV, tOrV, tNotV, tChain, tFld, tPart, tNoPart, tSl, rU, rI0, rI, rEq, rNe, rIxD, rIxL, rIxT, rLen, rIsi, rLenQ, rTupOf, rIn, rSlL, rNewStrs, rAppend, rCat, gUnl, tDrop, wipe, List.foldl_cons, List.foldl_nil, StX.tMakeR, sFld, tLenSetN, tDictZip, rIndex, rSorted, rSortedT, rSetOfT, tPar, tPar3, tBM, rSum, rAll, rAny, tNever, gName, gTup, gCons, gNil, L2.start, List.map_cons, List.map_nil, List.length_cons, List.length_nil, List.cons_append, List.nil_append, List.set_cons_zero, List.set_cons_succ, List.getElem?_cons_zero, List.getElem?_cons_succ, Option.some.injEq, V.int.injEq, V.str.injEq, V.bl.injEq, V.ref.injEq, V.ty.injEq, List.cons.injEq, exists_and_left, exists_and_right, exists_eq_left, exists_eq_left', exists_eq, exists_eq', and_true, true_and, exists_const, List.replicate, Nat.sub_self, Nat.reduceAdd, Nat.reduceSub, if_true, if_false, Bool.false_eq_true, ite_true, ite_false, reduceIte]
    have hlen : (qs.map (·.2)).length = qs.length := List.length_map ..
    have h8 : qs.length ≤ 8 := hlen ▸ im.len
    refine ⟨_, .inr cel.sq, qs.length, by rw [List.length_map], h8, fun H3 tl s3 e3 => ?_⟩
    rw [hR]; clear hR R
    simp only [tSeq, tRet, tRetN, tAsg, tIf, tIfS, tNext, tTest, tB, cx_K, cx_w, cx_nK, cx_nw, tOp, tUn, tVar, tC, tCons, tNil, tTup, tLst, tF, tM1, tCB, tAnd, tOr, tNot, tAndV, tOrV, tNotV, tChain, tFld, tPart, tNoPart, tSl, rU, rI0, rI, rEq, rNe, rIxD, rIxL, rIxT, rLen, rIsi, rLenQ, rTupOf, rIn, rSlL, rNewStrs, rAppend, rCat, gUnl, tDrop, wipe, List.foldl_cons, List.foldl_nil, StX.tMakeR, sFld, tLenSetN, tDictZip, rIndex, rSorted, rSortedT, rSetOfT, tPar, tPar3, tBM, rSum, rAll, rAny, tNever, gName, gTup, gCons, gNil, L2.start, List.map_cons, List.map_nil, List.length_cons, List.length_nil, List.cons_append, List.nil_append, List.set_cons_zero, List.set_cons_succ, List.getElem?_cons_zero, List.getElem?_cons_succ, Option.some.injEq, V.int.injEq, V.str.injEq, V.bl.injEq, V.ref.injEq, V.ty.injEq, List.cons.injEq, exists_and_left, exists_and_right, exists_eq_left, exists_eq_left', exists_eq, exists_eq', and_true, true_and, exists_const, List.replicate, Nat.sub_self, Nat.reduceAdd, Nat.reduceSub, if_true, if_false, Bool.false_eq_true, ite_true, ite_false, reduceIte]
    refine ⟨_, rfl, ta, rfl, ⟨_, (cel.same s3).sq⟩, fun D hD => lcm (walk_tup (xs := qs.map fun p => V.ref p.1)) (by rw [List.length_map, sizeLine_eq]; omega) hD (fun a => V.int ((srcTab m (kSize i) (qs.map (·.2))).getD a 0)) (fun H sa => (cel.same (s3.trans sa)).sq) (fun a x H5 H' Q5 ha sa5 y hq => ?_) (fun H5 sa5 e5 => ?_)⟩
    · obtain ⟨rfl, hx⟩ := y
      rw [List.getElem?_map] at hx
      obtain ⟨q, hq2, rfl⟩ := Option.map_eq_some_iff.mp hx
      have cq : CellAt H' q.1 q.2 := sa5 _ _ (s3 _ _ (cel.2 q (List.mem_of_getElem? hq2)))
      refine ⟨rfl, ?_⟩
      simp only [tSeq, tRet, tRetN, tAsg, tIf, tIfS, tNext, tTest, tB, cx_K, cx_w, cx_nK, cx_nw, tOp, tUn, tVar, tC, tCons, tNil, tTup, tLst, tF, tM1, tCB, tAnd, tOr, tNot, tAndV, tOrV, tNotV, tChain, tFld, tPart, tNoPart, tSl, rU, rI0, rI, rEq, rNe, rIxD, rIxL, rIxT, rLen, rIsi, rLenQ, rTupOf, rIn, rSlL, rNewStrs, rAppend, rCat, gUnl, tDrop, wipe, List.foldl_cons, List.foldl_nil, StX.tMakeR, sFld, tLenSetN, tDictZip, rIndex, rSorted, rSortedT, rSetOfT, tPar, tPar3, tBM, rSum, rAll, rAny, tNever, gName, gTup, gCons, gNil, L2.start, List.map_cons, List.map_nil, List.length_cons, List.length_nil, List.cons_append, List.nil_append, List.set_cons_zero, List.set_cons_succ, List.getElem?_cons_zero, List.getElem?_cons_succ, Option.some.injEq, V.int.injEq, V.str.injEq, V.bl.injEq, V.ref.injEq, V.ty.injEq, List.cons.injEq, exists_and_left, exists_and_right, exists_eq_left, exists_eq_left', exists_eq, exists_eq', and_true, true_and, exists_const, List.replicate, Nat.sub_self, Nat.reduceAdd, Nat.reduceSub, if_true, if_false, Bool.false_eq_true, ite_true, ite_false, reduceIte]
      have cel5 := cel.same (s3.trans sa5)
      have sq : SqT K H' ta (qs.map fun p => V.ref p.1) := cel5.sq
      obtain ⟨⟨ob, od, et⟩, _⟩ := cel5
      simp only [tTIdx]
      refine ⟨_, rfl, ta, ob, _, rfl, et, od, ?_⟩
      simp only [tSeq, tRet, tRetN, tAsg, tIf, tIfS, tNext, tTest, tB, cx_K, cx_w, cx_nK, cx_nw, tOp, tUn, tVar, tC, tCons, tNil, tTup, tLst, tF, tM1, tCB, tAnd, tOr, tNot, tAndV, tOrV, tNotV, tChain, tFld, tPart, tNoPart, tSl, rU, rI0, rI, rEq, rNe, rIxD, rIxL, rIxT, rLen, rIsi, rLenQ, rTupOf, rIn, rSlL, rNewStrs, rAppend, rCat, gUnl, tDrop, wipe, List.foldl_cons, List.foldl_nil, StX.tMakeR, sFld, tLenSetN, tDictZip, rIndex, rSorted, rSortedT, rSetOfT, tPar, tPar3, tBM, rSum, rAll, rAny, tNever, gName, gTup, gCons, gNil, L2.start, List.map_cons, List.map_nil, List.length_cons, List.length_nil, List.cons_append, List.nil_append, List.set_cons_zero, List.set_cons_succ, List.getElem?_cons_zero, List.getElem?_cons_succ, Option.some.injEq, V.int.injEq, V.str.injEq, V.bl.injEq, V.ref.injEq, V.ty.injEq, List.cons.injEq, exists_and_left, exists_and_right, exists_eq_left, exists_eq_left', exists_eq, exists_eq', and_true, true_and, exists_const, List.replicate, Nat.sub_self, Nat.reduceAdd, Nat.reduceSub, if_true, if_false, Bool.false_eq_true, ite_true, ite_false, reduceIte]
      refine ⟨m, kSize i, q.1, q.2, rfl, hm, cq, fun H6 u s6 cu => ?_⟩
      have hmem : srcOf m (kSize i) q.2 ∈ qs.map (·.2) := im.2.1 _ (src_eight (im.1 _ (List.mem_map_of_mem (List.mem_of_getElem? hq2))))
      refine ⟨ta, u, qs, srcOf m (kSize i) q.2, rfl, rfl, Same.tup s6 sq, fun p hp => .of (s6 _ _ (sa5 _ _ (s3 _ _ (cel.2 p hp)))), .of cu, hmem, ?_⟩
      have ei := srcTab_get (m := m) (n := kSize i) (cs := qs.map (·.2)) (a := a) (c := q.2) (by rw [List.getElem?_map, hq2]; exact Option.map_some ..)
      rw [hlen] at ei
      have hidx := cIdx_lt hmem
      rw [hlen, ← starts_len qs.length] at hidx
      have hq6 := hq _ s6
      rw [ei] at hq6
      exact ⟨_, _, rfl, .of (s6 _ _ (sa5 _ _ e3)), _, ints_at hidx, hq6⟩
    · rw [srcTab_back (m := m) (n := kSize i) (cs := qs.map (·.2)) (by rw [List.length_map, List.length_map])] at e5
      have hl8 : (srcTab m (kSize i) (qs.map (·.2))).length ≤ 8 := by
        unfold srcTab
        rw [List.length_map]
        exact im.len
      have st := s1.trans (s2.trans (s3.trans sa5))
      have k := fun H6 t => k H6 t (qs.map (·.2))
      generalize srcTab m (kSize i) (qs.map (·.2)) = ts at e5 hl8 k
      exact ⟨D, ts, rfl, .of e5, hl8, fun H6 t s6 ht e6 => k H6 t (st.trans s6) (Same.free st ht) im e6⟩
end
end Sq

set_option Elab.async false
set_option linter.all false
set_option maxRecDepth 100000
set_option maxHeartbeats 4000000
/-! ## x in t, t a tuple of data -/
namespace Sq
open PySem PySem.Spec PyProof.Rows L2 He
def rInT (K : PySem.W.Frag) : R2 := fun x y H Q => ∃ d ds, Dp K H x d ∧ Dp K H y (.tuple ds) ∧ SeqAt.shaped d = true ∧ SeqAt.shaped (.tuple ds) = true ∧ Q (.bl (ds.any fun z => PyData.eqv z d)) H
theorem op_inT {X : Cx} (hu : X.A.units + 65 < cLine) : OpR X (compareOp .In) (rInT X.K) := by
  intro pins s σ H x y v u Q I rx ry ⟨d, ds, hd, he, sd, se, q⟩
  obtain ⟨as, r1⟩ := Dp.reads I d x v hd rx
  obtain ⟨bs, r2⟩ := Dp.reads I (.tuple ds) y u he ry
  exact SeqAt.in_tuple_reads r2 r1 (SeqAt.canLay_of_shaped se) (SeqAt.canLay_of_shaped sd) (room_in_shaped sd hu) ⟨.bl _, H, I, rfl, q⟩
end Sq

set_option Elab.async false
set_option linter.all false
set_option maxRecDepth 100000
set_option maxHeartbeats 4000000
/-! ## Walks: actions -/
namespace Sq
open PySem PySem.Spec PyProof.Rows L2 He
section
variable {P : Program} {w : World} {K : PySem.W.Frag} {mg : Str → Option Value} {base : Heap}
theorem methF {K : PySem.W.Frag} {x m : Str} (h : (Fa.meth x m).ok K = true) : PySem.W.findIn K (.ref (ga K x)) m = some (some (.ref (ma K (ga K x) m))) ∧ PySem.W.isFn K (.ref (ma K (ga K x) m)) = true ∧ PySem.W.keepIn K (.ref (ma K (ga K x) m)) = true := by
  have h : (eqO (PySem.W.findIn K (.ref (ga K x)) m) (some (some (.ref (ma K (ga K x) m)))) && (PySem.W.isFn K (.ref (ma K (ga K x) m)) && PySem.W.keepIn K (.ref (ma K (ga K x) m)))) = true := h
  obtain ⟨h1, h2⟩ := ba h
  exact ⟨eqO_ok h1, ba h2⟩
theorem TX.mC (T : TX w K mg) : PySem.W.findIn K (.ref (ga K "Sizes")) "__contains__" = some (some (.ref (ma K (ga K "Sizes") "__contains__"))) ∧ PySem.W.isFn K (.ref (ma K (ga K "Sizes") "__contains__")) = true ∧ PySem.W.keepIn K (.ref (ma K (ga K "Sizes") "__contains__")) = true := methF (T.says.a.fact 26 (f := .meth "Sizes" "__contains__"))
theorem TX.mQ (T : TX w K mg) : PySem.W.findIn K (.ref (ga K "Sizes")) "__eq__" = some (some (.ref (ma K (ga K "Sizes") "__eq__"))) ∧ PySem.W.isFn K (.ref (ma K (ga K "Sizes") "__eq__")) = true ∧ PySem.W.keepIn K (.ref (ma K (ga K "Sizes") "__eq__")) = true := methF (T.says.a.fact 27 (f := .meth "Sizes" "__eq__"))
theorem TX.mR (T : TX w K mg) : PySem.W.findIn K (.ref (ga K "Action")) "result" = some (some (.ref (ma K (ga K "Action") "result"))) ∧ PySem.W.isFn K (.ref (ma K (ga K "Action") "result")) = true ∧ PySem.W.keepIn K (.ref (ma K (ga K "Action") "result")) = true := methF (T.says.a.fact 28 (f := .meth "Action" "result"))
theorem TX.mE (T : TX w K mg) : PySem.W.findIn K (.ref (ga K "Action")) "__eq__" = some (some (.ref (ma K (ga K "Action") "__eq__"))) ∧ PySem.W.isFn K (.ref (ma K (ga K "Action") "__eq__")) = true ∧ PySem.W.keepIn K (.ref (ma K (ga K "Action") "__eq__")) = true := methF (T.says.a.fact 29 (f := .meth "Action" "__eq__"))
/-- a kind as data -/
def kD (i : Nat) : PyData := .tuple ((kinds.getD i []).map PyData.int)
theorem dp_kind (T : TX w K mg) {H : Hp} {i : Nat} (h : i < 24) : Dp K H (.ref (kiAd K i)) (kD i) := .tup (T.kind h) (dpAll_ints _)
theorem dp_kinds (T : TX w K mg) {H : Hp} : ∀ {l : List Nat}, (∀ i ∈ l, i < 24) → DpAll K H (l.map fun i => V.ref (kiAd K i)) (l.map kD)
  | [], _ => .nil
  | i :: l, h => .cons (dp_kind T (h i (List.mem_cons_self ..))) (dp_kinds T fun j hj => h j (List.mem_cons_of_mem _ hj))
theorem shaped_kinds (l : List Nat) : SeqAt.shaped (.tuple (l.map kD)) = true := by
  unfold SeqAt.shaped
  have h0 : ∀ xs : List Int, PyData.canLayAll0 (xs.map PyData.int) = true := fun xs => by
    induction xs with
    | nil => rfl
    | cons x xs ih => exact ih
  have h1 : PyData.canLay0 (.tuple (l.map kD)) = true := by
    show PyData.canLayAll0 _ = true
    induction l with
    | nil => rfl
    | cons i l ih =>
      show (PyData.canLay0 (kD i) && PyData.canLayAll0 (l.map kD)) = true
      rw [ih, show PyData.canLay0 (kD i) = true from h0 _]
      rfl
  have h2 : PyData.depthAll (l.map kD) ≤ 1 := by
    induction l with
    | nil => exact Nat.zero_le _
    | cons i l ih => simp only [List.map_cons, PyData.depthAll, kD, PyData.depth, PySem.W.depth_ints]; exact Nat.max_le.mpr ⟨Nat.le_refl _, ih (by show PyData.canLayAll0 _ = true; exact (Bool.and_eq_true _ _ ▸ h1 : _ ∧ _).2)⟩
  have h3 : PyData.depth (.tuple (l.map kD)) ≤ 64 := by simp only [PyData.depth]; omega
  rw [h1, decide_eq_true h3]
  rfl
theorem kinds_inj : ∀ i, i < 24 → ∀ j, j < 24 → (kinds.getD i [] = kinds.getD j [] ↔ i = j) := by decide +kernel
theorem eqv_kinds {i j : Nat} (hi : i < 24) (hj : j < 24) : PyData.eqv (kD i) (kD j) = decide (i = j) := by
  rw [show PyData.eqv (kD i) (kD j) = decide (kinds.getD i [] = kinds.getD j []) from eqv_ints _ _]
  by_cases h : i = j
  · rw [decide_eq_true h, decide_eq_true ((kinds_inj i hi j hj).mpr h)]
  · rw [decide_eq_false h, decide_eq_false fun e => h ((kinds_inj i hi j hj).mp e)]
theorem standing_lt {n : Int} : ∀ i ∈ standing n, i < 24 := fun i h => List.mem_range.mp (List.mem_filter.mp h).1
theorem any_standing {n : Int} {i : Nat} (hi : i < 24) : ((standing n).map kD).any (fun z => PyData.eqv z (kD i)) = stands (kindAt i) n := by
  rw [List.any_map]
  cases h : stands (kindAt i) n with
  | true => exact List.any_eq_true.mpr ⟨i, List.mem_filter.mpr ⟨List.mem_range.mpr hi, h⟩, by show PyData.eqv (kD i) (kD i) = true; rw [eqv_kinds hi hi]; exact decide_eq_true rfl⟩
  | false =>
    rw [List.any_eq_false]
    intro j hj
    show ¬ PyData.eqv (kD j) (kD i) = true
    rw [eqv_kinds (standing_lt j hj) hi, decide_eq_true_eq]
    rintro rfl
    rw [(List.mem_filter.mp hj).2] at h
    cases h
/-- the sizes outside of a set -/
def outSz (few : List Int) (e o : Option Int) : List Int := ((List.range 11).filter fun k => !(decide ((((k : Nat) : Int) + 1) ∈ few) || goesOn e o (((k : Nat) : Int) + 1))).map fun k => ((k : Nat) : Int) + 1
def metOf (ns : List Int) : List Nat := (List.range 24).filter fun i => ns.any fun n => stands (kindAt i) n
def spMetKinds (K : PySem.W.Frag) : Sp := fun vs H Q _ => ∃ (a : Addr) (few : List Int) (e o : Option Int), vs = [.ref a] ∧ SizesAt K H a few e o ∧ ∀ H' t, Same H H' → H' t = some (.lst ((metOf (outSz few e o)).map fun i => V.ref (kiAd K i))) → Q (.ref t) H'
abbrev N_met_kinds : List Str := ["gaps", "sizes", "size", "met", "kind", "kinds"]
theorem sc_met_kinds : FnScope N_met_kinds ["gaps"] (defScope (top 98)) := ⟨rfl, rfl, rfl, by decide +kernel, rfl, by decide +kernel, by decide +kernel⟩
theorem F_met_kinds (T : TX w K mg) : Fn P w K mg base 4 "met_kinds" (spMetKinds K) := by
  obtain ⟨fd, F⟩ := T.fi 38
  have nd := sc_met_kinds.nd
  have F_Sizes_contains := F_Sizes_contains (P := P) (base := base) T
  have F_standing_kinds := F_standing_kinds (P := P) (base := base) T
  refine ⟨_, raw0 F sc_met_kinds (fun vs H Q E h => ?_) (fun _ _ _ _ _ _ us hl => match us, hl with | [_], _ => rfl) (fun cdv A outer s H vs Q E hr h => ?_), T.g "met_kinds", F.kp⟩
  · obtain ⟨a, few, e, o, rfl, ha, k⟩ := h
    rfl
  · obtain ⟨a, few, e, o, rfl, ha, k⟩ := h
    refine ⟨_, (pss_cons (ps_setLc (i := 1) (own := [("size", 2)]) (g := gName 2) (by rfl) nd rfl rfl (sw_true rfl rfl rfl (by decide +kernel)) (pi_range2 (by rfl) (T.z "range") (pa_cons (pe_int) (pa_cons (pe_op op_add (pe_gi rfl T.deciding) (pe_int)) pa_nil))) (blkOk_by (own := [("size", 2)]) (N := N_met_kinds) (sc := (defScope (top 98))) (by decide +kernel)) (fun _ _ _ _ _ => (pg_name (i := 2) nd rfl (Or.inl rfl))) (fun _ _ _ _ _ => (pts_one (pt_cmpR (r := rOwnIn (ga K "Sizes") (spSizesContains K) true) (op_notinOwn T.mC.1 T.mC.2.1 F_Sizes_contains (hr.mono (by decide))) (pv 2) (pv 0) (by rfl)))) (fun _ _ _ _ _ => (pv 2)))
    (pss_cons (ps_set (i := 3) nd rfl (Or.inr rfl) (pe_lc (own := [("size", 2)]) (g := gName 2) (tt := tYes) (by rfl) nd (pi_list (pv 1)) (blkOk_by (own := [("size", 2)]) (N := N_met_kinds) (sc := (defScope (top 98))) (by decide +kernel)) (fun _ _ _ _ _ => (pg_name (i := 2) nd rfl (Or.inl rfl))) (fun _ _ _ _ _ => pts_nil) (fun _ _ _ _ _ => (pe_f F_standing_kinds hr (pa_cons (pv 2) pa_nil)))))
    (pss_one (ps_ret (pe_lc (own := [("kind", 4)]) (g := gName 4) (by rfl) nd (pi_tup (pe_K rfl (T.g "KINDS"))) (blkOk_by (own := [("kind", 4)]) (N := N_met_kinds) (sc := (defScope (top 98))) (by decide +kernel)) (fun _ _ _ _ _ => (pg_name (i := 4) nd rfl (Or.inr rfl))) (fun _ _ _ _ _ => (pts_one (pt_val (pe_callB (r := rAny K) (cr_any rfl) (by rfl) (T.z "any") (by decide +kernel) (pa_cons (pe_lc (own := [("kinds", 5)]) (g := gName 5) (tt := tYes) (by rfl) nd (pi_list (pv 3) : PI _ _ _ (iList K _)) (blkOk_by (own := [("kinds", 5)]) (N := N_met_kinds) (by rfl)) (fun _ _ _ _ _ => (pg_name (i := 5) nd rfl (Or.inl rfl))) (fun _ _ _ _ _ => pts_nil) (fun _ _ _ _ _ => (pe_cmpR (r := rInT K) (op_inT (hu65_of hr)) (pv 4) (pv 5) (by rfl)))) pa_nil))))) (fun _ _ _ _ _ => (pv 4))))))), ?_⟩
    refine seqG fun R hR => ?_
    simp only [tSeq, tRet, tRetN, tAsg, tIf, tIfS, tNext, tTest, tB, cx_K, cx_w, cx_nK, cx_nw, tOp, tUn, tVar, tC, tCons, tNil, tTup, tLst, tF, tM1, tCB, tAnd, tOr, tNot, tAndV, tOrV, tNotV, tChain, tFld, tPart, tNoPart, tSl, rU, rI0, rI, rEq, rNe, rIxD, rIxL, rIxT, rLen, rIsi, rLenQ, rTupOf, rIn, rSlL, rNewStrs, rAppend, rCat, gUnl, tDrop, wipe, List.foldl_cons, List.foldl_nil, StX.tMakeR, sFld, tLenSetN, tDictZip, rIndex, rSorted, rSortedT, rSetOfT, tPar, tPar3, tBM, rSum, rAll, rAny, tNever, gName, gTup, gCons, gNil, L2.start, List.map_cons, List.map_nil, List.length_cons, List.length_nil, List.cons_append, List.nil_append, List.set_cons_zero, List.set_cons_succ, List.getElem?_cons_zero, List.getElem?_cons_succ, Option.some.injEq, V.int.injEq, V.str.injEq, V.bl.injEq, V.ref.injEq, V.ty.injEq, List.cons.injEq, exists_and_left, exists_and_right, exists_eq_left, exists_eq_left', exists_eq, exists_eq', and_true, true_and, exists_const, List.replicate, Nat.sub_self, Nat.reduceAdd, Nat.reduceSub, if_true, if_false, Bool.false_eq_true, ite_true, ite_false, reduceIte]
    refine ⟨11, 1, rfl, rfl, 1, 11 + 1, rfl, ⟨by decide, by decide, by decide, by decide⟩, fun D hD => lcf (walk_range (lo := 1) (n := 11)) (by rw [sizeLine_eq]; decide) hD (fun i => V.int ((i : Nat) + 1 : Int)) (fun i => !(decide ((((i : Nat) : Int) + 1) ∈ few) || goesOn e o (((i : Nat) : Int) + 1))) (fun _ _ => trivial) (fun i H x H' y => ⟨y.1, by have := y.2; dsimp only at this; rw [this, Int.add_comm]⟩) (fun i H5 Q1 Q2 hi sa5 h1 h2 => ?_) (fun H5 sa5 e5 => ?_)⟩
    · refine ⟨rfl, ?_⟩
      simp only [tSeq, tRet, tRetN, tAsg, tIf, tIfS, tNext, tTest, tB, cx_K, cx_w, cx_nK, cx_nw, tOp, tUn, tVar, tC, tCons, tNil, tTup, tLst, tF, tM1, tCB, tAnd, tOr, tNot, tAndV, tOrV, tNotV, tChain, tFld, tPart, tNoPart, tSl, rU, rI0, rI, rEq, rNe, rIxD, rIxL, rIxT, rLen, rIsi, rLenQ, rTupOf, rIn, rSlL, rNewStrs, rAppend, rCat, gUnl, tDrop, wipe, List.foldl_cons, List.foldl_nil, StX.tMakeR, sFld, tLenSetN, tDictZip, rIndex, rSorted, rSortedT, rSetOfT, tPar, tPar3, tBM, rSum, rAll, rAny, tNever, gName, gTup, gCons, gNil, L2.start, List.map_cons, List.map_nil, List.length_cons, List.length_nil, List.cons_append, List.nil_append, List.set_cons_zero, List.set_cons_succ, List.getElem?_cons_zero, List.getElem?_cons_succ, Option.some.injEq, V.int.injEq, V.str.injEq, V.bl.injEq, V.ref.injEq, V.ty.injEq, List.cons.injEq, exists_and_left, exists_and_right, exists_eq_left, exists_eq_left', exists_eq, exists_eq', and_true, true_and, exists_const, List.replicate, Nat.sub_self, Nat.reduceAdd, Nat.reduceSub, if_true, if_false, Bool.false_eq_true, ite_true, ite_false, reduceIte]
      have hb := ha.same sa5
      obtain ⟨dx, t, f, e1, e2⟩ := id hb
      refine ⟨a, dx, _, rfl, e1, a, few, e, o, _, rfl, hb, _, rfl, _, rfl, ?_⟩
      cases hg : decide ((((i : Nat) : Int) + 1) ∈ few) || goesOn e o (((i : Nat) : Int) + 1) with
      | true => exact iteF (h2 _ (Same.refl _) (by rw [hg]; rfl))
      | false => exact iteT (h1 _ (Same.refl _) (by rw [hg]; rfl))
    · have e6 : H5 D = some (.lst ((outSz few e o).map V.int)) := by
        rw [e5]
        unfold outSz
        rw [List.map_map]
        rfl
      clear e5
      have hol : (outSz few e o).length ≤ 11 := by
        unfold outSz
        rw [List.length_map]
        exact Nat.le_trans (List.length_filter_le _ _) (by rw [List.length_range] <;> exact Nat.le_refl _)
      unfold metOf at k
      generalize outSz few e o = ns at e6 hol k
      rw [hR]; clear hR R
      refine seqG fun R hR => ?_
      simp only [tSeq, tRet, tRetN, tAsg, tIf, tIfS, tNext, tTest, tB, cx_K, cx_w, cx_nK, cx_nw, tOp, tUn, tVar, tC, tCons, tNil, tTup, tLst, tF, tM1, tCB, tAnd, tOr, tNot, tAndV, tOrV, tNotV, tChain, tFld, tPart, tNoPart, tSl, rU, rI0, rI, rEq, rNe, rIxD, rIxL, rIxT, rLen, rIsi, rLenQ, rTupOf, rIn, rSlL, rNewStrs, rAppend, rCat, gUnl, tDrop, wipe, List.foldl_cons, List.foldl_nil, StX.tMakeR, sFld, tLenSetN, tDictZip, rIndex, rSorted, rSortedT, rSetOfT, tPar, tPar3, tBM, rSum, rAll, rAny, tNever, gName, gTup, gCons, gNil, L2.start, List.map_cons, List.map_nil, List.length_cons, List.length_nil, List.cons_append, List.nil_append, List.set_cons_zero, List.set_cons_succ, List.getElem?_cons_zero, List.getElem?_cons_succ, Option.some.injEq, V.int.injEq, V.str.injEq, V.bl.injEq, V.ref.injEq, V.ty.injEq, List.cons.injEq, exists_and_left, exists_and_right, exists_eq_left, exists_eq_left', exists_eq, exists_eq', and_true, true_and, exists_const, List.replicate, Nat.sub_self, Nat.reduceAdd, Nat.reduceSub, if_true, if_false, Bool.false_eq_true, ite_true, ite_false, reduceIte]
      refine ⟨_, rfl, D, rfl, ⟨_, .of e6⟩, fun D2 hD2 => lcr walk_list (by rw [List.length_map, sizeLine_eq]; omega) hD2 (fun j y H => ∃ t n, ns[j]? = some n ∧ y = .ref t ∧ H t = some (.tup ((standing n).map fun i => V.ref (kiAd K i)))) (fun j y H H' st h => ?_) (fun H sa => sa.seq (.of e6)) (fun j x H7 H' Q5 hj sa7 y hq => ?_) (fun H7 ys sa7 e7 hl hr => ?_)⟩
      · obtain ⟨t, n, h1, h2, h3⟩ := h
        exact ⟨t, n, h1, h2, st _ _ h3⟩
      · obtain ⟨rfl, hx⟩ := y
        rw [List.getElem?_map] at hx
        obtain ⟨n, hn, rfl⟩ := Option.map_eq_some_iff.mp hx
        refine ⟨rfl, ?_⟩
        simp only [tSeq, tRet, tRetN, tAsg, tIf, tIfS, tNext, tTest, tB, cx_K, cx_w, cx_nK, cx_nw, tOp, tUn, tVar, tC, tCons, tNil, tTup, tLst, tF, tM1, tCB, tAnd, tOr, tNot, tAndV, tOrV, tNotV, tChain, tFld, tPart, tNoPart, tSl, rU, rI0, rI, rEq, rNe, rIxD, rIxL, rIxT, rLen, rIsi, rLenQ, rTupOf, rIn, rSlL, rNewStrs, rAppend, rCat, gUnl, tDrop, wipe, List.foldl_cons, List.foldl_nil, StX.tMakeR, sFld, tLenSetN, tDictZip, rIndex, rSorted, rSortedT, rSetOfT, tPar, tPar3, tBM, rSum, rAll, rAny, tNever, gName, gTup, gCons, gNil, L2.start, List.map_cons, List.map_nil, List.length_cons, List.length_nil, List.cons_append, List.nil_append, List.set_cons_zero, List.set_cons_succ, List.getElem?_cons_zero, List.getElem?_cons_succ, Option.some.injEq, V.int.injEq, V.str.injEq, V.bl.injEq, V.ref.injEq, V.ty.injEq, List.cons.injEq, exists_and_left, exists_and_right, exists_eq_left, exists_eq_left', exists_eq, exists_eq', and_true, true_and, exists_const, List.replicate, Nat.sub_self, Nat.reduceAdd, Nat.reduceSub, if_true, if_false, Bool.false_eq_true, ite_true, ite_false, reduceIte]
        exact ⟨n, rfl, fun H8 t s8 e8 => hq _ _ s8 ⟨t, n, hn, rfl, e8⟩⟩
      · rw [List.length_map] at hl
        have s7 := sa5.trans sa7
        rw [hR]; clear hR R
        simp only [tSeq, tRet, tRetN, tAsg, tIf, tIfS, tNext, tTest, tB, cx_K, cx_w, cx_nK, cx_nw, tOp, tUn, tVar, tC, tCons, tNil, tTup, tLst, tF, tM1, tCB, tAnd, tOr, tNot, tAndV, tOrV, tNotV, tChain, tFld, tPart, tNoPart, tSl, rU, rI0, rI, rEq, rNe, rIxD, rIxL, rIxT, rLen, rIsi, rLenQ, rTupOf, rIn, rSlL, rNewStrs, rAppend, rCat, gUnl, tDrop, wipe, List.foldl_cons, List.foldl_nil, StX.tMakeR, sFld, tLenSetN, tDictZip, rIndex, rSorted, rSortedT, rSetOfT, tPar, tPar3, tBM, rSum, rAll, rAny, tNever, gName, gTup, gCons, gNil, L2.start, List.map_cons, List.map_nil, List.length_cons, List.length_nil, List.cons_append, List.nil_append, List.set_cons_zero, List.set_cons_succ, List.getElem?_cons_zero, List.getElem?_cons_succ, Option.some.injEq, V.int.injEq, V.str.injEq, V.bl.injEq, V.ref.injEq, V.ty.injEq, List.cons.injEq, exists_and_left, exists_and_right, exists_eq_left, exists_eq_left', exists_eq, exists_eq', and_true, true_and, exists_const, List.replicate, Nat.sub_self, Nat.reduceAdd, Nat.reduceSub, if_true, if_false, Bool.false_eq_true, ite_true, ite_false, reduceIte]
        refine ⟨_, rfl, ⟨_, T.kindsT⟩, fun D3 hD3 => lcf (walk_kinds T) (by rw [sizeLine_eq]; decide) hD3 (fun i => V.ref (kiAd K i)) (fun i => ns.any fun n => stands (kindAt i) n) (fun H _ => trivial) (fun i H x H' y => y) (fun i H8 Q1 Q2 hi sa8 h1 h2 => ?_) (fun H8 sa8 e8 => ?_)⟩
        · refine ⟨rfl, ?_⟩
          simp only [tSeq, tRet, tRetN, tAsg, tIf, tIfS, tNext, tTest, tB, cx_K, cx_w, cx_nK, cx_nw, tOp, tUn, tVar, tC, tCons, tNil, tTup, tLst, tF, tM1, tCB, tAnd, tOr, tNot, tAndV, tOrV, tNotV, tChain, tFld, tPart, tNoPart, tSl, rU, rI0, rI, rEq, rNe, rIxD, rIxL, rIxT, rLen, rIsi, rLenQ, rTupOf, rIn, rSlL, rNewStrs, rAppend, rCat, gUnl, tDrop, wipe, List.foldl_cons, List.foldl_nil, StX.tMakeR, sFld, tLenSetN, tDictZip, rIndex, rSorted, rSortedT, rSetOfT, tPar, tPar3, tBM, rSum, rAll, rAny, tNever, gName, gTup, gCons, gNil, L2.start, List.map_cons, List.map_nil, List.length_cons, List.length_nil, List.cons_append, List.nil_append, List.set_cons_zero, List.set_cons_succ, List.getElem?_cons_zero, List.getElem?_cons_succ, Option.some.injEq, V.int.injEq, V.str.injEq, V.bl.injEq, V.ref.injEq, V.ty.injEq, List.cons.injEq, exists_and_left, exists_and_right, exists_eq_left, exists_eq_left', exists_eq, exists_eq', and_true, true_and, exists_const, List.replicate, Nat.sub_self, Nat.reduceAdd, Nat.reduceSub, if_true, if_false, Bool.false_eq_true, ite_true, ite_false, reduceIte]
          refine ⟨_, rfl, D2, rfl, ⟨_, .of (sa8 _ _ e7)⟩, fun D4 hD4 => lcm walk_list (by rw [hl, sizeLine_eq]; omega) hD4 (fun j => V.bl (stands (kindAt i) (ns.getD j 0))) (fun H sa => sa.seq (.of (sa8 _ _ e7))) (fun j x H9 H' Q9 hj sa9 y hq => ?_) (fun H9 sa9 e9 => ?_)⟩
          · obtain ⟨rfl, hx⟩ := y
            obtain ⟨t, n, hn, rfl, et⟩ := hr j x hx
            refine ⟨rfl, ?_⟩
            simp only [tSeq, tRet, tRetN, tAsg, tIf, tIfS, tNext, tTest, tB, cx_K, cx_w, cx_nK, cx_nw, tOp, tUn, tVar, tC, tCons, tNil, tTup, tLst, tF, tM1, tCB, tAnd, tOr, tNot, tAndV, tOrV, tNotV, tChain, tFld, tPart, tNoPart, tSl, rU, rI0, rI, rEq, rNe, rIxD, rIxL, rIxT, rLen, rIsi, rLenQ, rTupOf, rIn, rSlL, rNewStrs, rAppend, rCat, gUnl, tDrop, wipe, List.foldl_cons, List.foldl_nil, StX.tMakeR, sFld, tLenSetN, tDictZip, rIndex, rSorted, rSortedT, rSetOfT, tPar, tPar3, tBM, rSum, rAll, rAny, tNever, gName, gTup, gCons, gNil, L2.start, List.map_cons, List.map_nil, List.length_cons, List.length_nil, List.cons_append, List.nil_append, List.set_cons_zero, List.set_cons_succ, List.getElem?_cons_zero, List.getElem?_cons_succ, Option.some.injEq, V.int.injEq, V.str.injEq, V.bl.injEq, V.ref.injEq, V.ty.injEq, List.cons.injEq, exists_and_left, exists_and_right, exists_eq_left, exists_eq_left', exists_eq, exists_eq', and_true, true_and, exists_const, List.replicate, Nat.sub_self, Nat.reduceAdd, Nat.reduceSub, if_true, if_false, Bool.false_eq_true, ite_true, ite_false, reduceIte]
            refine ⟨kD i, (standing n).map kD, dp_kind T hi, .tup (.of (sa9 _ _ (sa8 _ _ et))) (dp_kinds T standing_lt), shaped_ints _, shaped_kinds _, ?_⟩
            rw [any_standing hi]
            have q := hq _ (Same.refl _)
            rw [List.getD_eq_getElem?_getD, hn] at q
            exact q
          · refine ⟨D4, rfl, ns.map fun n => stands (kindAt i) n, ?_, ?_⟩
            · refine .of ?_
              rw [e9, hl]
              congr 2
              have := congrArg (List.map fun n => V.bl (stands (kindAt i) n)) (range_get ns)
              rw [List.map_map] at this
              rw [List.map_map]
              exact this
            · rw [List.any_map]
              show if (ns.any fun n => stands (kindAt i) n) = true then _ else _
              cases hg : ns.any fun n => stands (kindAt i) n with
              | true => exact iteT (h1 _ sa9 hg)
              | false => exact iteF (h2 _ sa9 hg)
        · exact k _ D3 (s7.trans sa8) e8
end
end Sq

set_option Elab.async false
set_option linter.all false
set_option maxRecDepth 100000
set_option maxHeartbeats 4000000
/-! ## Walks: actions compared -/
namespace Sq
open PySem PySem.Spec PyProof.Rows L2 He
section
variable {P : Program} {w : World} {K : PySem.W.Frag} {mg : Str → Option Value} {base : Heap}
theorem pe_mgetP (P : Program) (w : World) (K : PySem.W.Frag) {X : Cx} {o i : Expr} {td tk : TE} {pos : Pos} (ho : PE X o td) (hi : PE X i tk) (hs : NoSl i) (hP : X.prog = P) (hw : X.w = w) (hK : X.K = K) (hu : X.A.units + 1 < cLine) : PE X (.Subscript o i pos) (tMGet P w K td tk) := by
  subst hP hw hK
  exact pe_mget hu ho hi hs
def kKey (i : Nat) : List Key := (kinds.getD i []).map Sum.inl
theorem kKey_kV : ∀ i, i < 24 → (kKey i).map kV = (kinds.getD i []).map V.int := by
  intro i _
  unfold kKey
  rw [List.map_map]
  rfl
/-- what a dict of moves holds, its first n kinds -/
def movEnts (K : PySem.W.Frag) (ad : Nat → Addr) (n : Nat) : List Ent := (List.range n).map fun i => (kKey i, kiAd K i, Value.ref (ad i))
theorem movKeys (ad : Nat → Addr) (n : Nat) : (movEnts K ad n).map (·.1) = (List.range n).map kKey := by
  unfold movEnts
  rw [List.map_map]
  rfl
theorem kKey_nodup : ∀ n, n < 25 → ((List.range n).map kKey).Nodup := by decide +kernel
theorem kKey_inj : ∀ i, i < 24 → ∀ j, j < 24 → kKey i = kKey j → i = j := by decide +kernel
theorem kKey_new {n : Nat} (h : n < 24) : kKey n ∉ (List.range n).map kKey := fun m => by
  obtain ⟨j, hj, e⟩ := List.mem_map.mp m
  have hj := List.mem_range.mp hj
  have := kKey_inj j (by omega) n h e
  omega
theorem kSq (T : TX w K mg) {H : Hp} {i : Nat} (h : i < 24) : SqT K H (kiAd K i) ((kKey i).map kV) := by
  rw [kKey_kV i h]
  exact T.kind h
theorem keys_there (T : TX w K mg) {H : Hp} (ad : Nat → Addr) {n : Nat} (h : n ≤ 24) : KeysThere K H (movEnts K ad n) := by
  refine ⟨fun x hx => ?_, ?_⟩
  · obtain ⟨i, hi, rfl⟩ := List.mem_map.mp hx
    exact kSq T (by have := List.mem_range.mp hi; omega)
  · rw [movKeys]
    exact kKey_nodup n (by omega)
theorem at_key (ad : Nat → Addr) {i : Nat} (hi : i < 24) : atKey (movEnts K ad 24) (kKey i) = some (kiAd K i, .ref (ad i)) := by
  unfold atKey
  have e : (movEnts K ad 24).find? (fun x => decide (x.1 = kKey i)) = some (kKey i, kiAd K i, Value.ref (ad i)) := by
    have hm : (kKey i, kiAd K i, Value.ref (ad i)) ∈ movEnts K ad 24 := List.mem_map_of_mem (f := fun i => (kKey i, kiAd K i, Value.ref (ad i))) (List.mem_range.mpr hi)
    cases q : (movEnts K ad 24).find? (fun x => decide (x.1 = kKey i)) with
    | none => exact absurd (decide_eq_true (rfl : kKey i = kKey i)) (List.find?_eq_none.mp q _ hm)
    | some y =>
      have h1 := List.find?_some q
      obtain ⟨j, hj, rfl⟩ := List.mem_map.mp (List.mem_of_find?_eq_some q)
      have ej : j = i := kKey_inj j (List.mem_range.mp hj) i hi (of_decide_eq_true h1)
      rw [ej]
  rw [e]
  rfl
/-- moves by kinds -/
def MovAt (P : Program) (w : World) (K : PySem.W.Frag) (H : Hp) (D : Addr) (ms : Nat → List Int) : Prop := ∃ ad : Nat → Addr, H D = some (MapO P w D (movEnts K ad 24)) ∧ ∀ i, i < 24 → H (ad i) = some (.tup ((ms i).map V.int))
theorem MovAt.same {H H' : Hp} {D : Addr} {ms : Nat → List Int} (h : MovAt P w K H D ms) (s : Same H H') : MovAt P w K H' D ms := let ⟨ad, e, h⟩ := h; ⟨ad, s _ _ e, fun i hi => s _ _ (h i hi)⟩
/-- the reading of moves[k] -/
theorem MovAt.get (T : TX w K mg) {H : Hp} {D b : Addr} {ms : Nat → List Int} (h : MovAt P w K H D ms) {i : Nat} (hi : i < 24) (hb : SqT K H b ((kKey i).map kV)) {Q : VK} (hq : ∀ t, H t = some (.tup ((ms i).map V.int)) → Q (.ref t) H) :
    ∃ D' xs b' k q t, V.ref D = .ref D' ∧ V.ref b = .ref b' ∧ H D' = some (MapO P w D' xs) ∧ KeysThere K H xs ∧ SqT K H b' (k.map kV) ∧ atKey xs k = some (q, .ref t) ∧ Q (.ref t) H := by
  obtain ⟨ad, e, h⟩ := h
  exact ⟨D, _, b, _, _, ad i, rfl, rfl, e, keys_there T ad (Nat.le_refl _), hb, at_key ad hi, hq _ (h i hi)⟩
/-- an action -/
def ActAt (P : Program) (w : World) (K : PySem.W.Frag) (H : Hp) (a : Addr) (ms : Nat → List Int) (few : List Int) (e o : Option Int) : Prop := ∃ dx D g, H a = some (.ins (ga K "Action") dx [("moves", .ref D), ("gaps", .ref g)]) ∧ MovAt P w K H D ms ∧ SizesAt K H g few e o
theorem ActAt.same {H H' : Hp} {a : Addr} {ms : Nat → List Int} {few : List Int} {e o : Option Int} (h : ActAt P w K H a ms few e o) (s : Same H H') : ActAt P w K H' a ms few e o :=
  let ⟨dx, D, g, h1, h2, h3⟩ := h; ⟨dx, D, g, s _ _ h1, h2.same s, h3.same s⟩
def spActInit (K : PySem.W.Frag) : Sp := fun vs H Q _ => ∃ (x dx m g : Addr), vs = [.ref x, .ref m, .ref g] ∧ H x = some (.ins (ga K "Action") dx []) ∧ Q .non (upd H x (.ins (ga K "Action") dx [("moves", .ref m), ("gaps", .ref g)]))
abbrev N_Action_init : List Str := ["self", "moves", "gaps"]
theorem sc_Action_init : FnScope N_Action_init ["self", "moves", "gaps"] (defScope (inClass (top 99) 0)) := ⟨rfl, rfl, rfl, by decide +kernel, rfl, by decide +kernel, by decide +kernel⟩
theorem F_Action_init (T : TX w K mg) : FnR P w K mg base CX0 1 (ma K (ga K "Action") "__init__") (spActInit K) := by
  obtain ⟨fd, F⟩ := T.fi 57
  have nd := sc_Action_init.nd
  refine raw0 F sc_Action_init (fun vs H Q E h => ?_) (fun _ _ _ _ _ _ us hl => match us, hl with | [_, _, _], _ => rfl) (fun cdv A outer s H vs Q E hr h => ?_)
  · obtain ⟨x, dx, m, g, rfl, hx, k⟩ := h
    rfl
  · obtain ⟨x, dx, m, g, rfl, hx, k⟩ := h
    refine ⟨_, (pss_cons (ps_fld (pv 0) (pv 1) rfl)
    (pss_one (ps_fld (pv 0) (pv 2) rfl))), ?_⟩
    simp only [tSeq, tRet, tRetN, tAsg, tIf, tIfS, tNext, tTest, tB, cx_K, cx_w, cx_nK, cx_nw, tOp, tUn, tVar, tC, tCons, tNil, tTup, tLst, tF, tM1, tCB, tAnd, tOr, tNot, tAndV, tOrV, tNotV, tChain, tFld, tPart, tNoPart, tSl, rU, rI0, rI, rEq, rNe, rIxD, rIxL, rIxT, rLen, rIsi, rLenQ, rTupOf, rIn, rSlL, rNewStrs, rAppend, rCat, gUnl, tDrop, wipe, List.foldl_cons, List.foldl_nil, StX.tMakeR, sFld, tLenSetN, tDictZip, rIndex, rSorted, rSortedT, rSetOfT, tPar, tPar3, tBM, rSum, rAll, rAny, tNever, gName, gTup, gCons, gNil, L2.start, List.map_cons, List.map_nil, List.length_cons, List.length_nil, List.cons_append, List.nil_append, List.set_cons_zero, List.set_cons_succ, List.getElem?_cons_zero, List.getElem?_cons_succ, Option.some.injEq, V.int.injEq, V.str.injEq, V.bl.injEq, V.ref.injEq, V.ty.injEq, List.cons.injEq, exists_and_left, exists_and_right, exists_eq_left, exists_eq_left', exists_eq, exists_eq', and_true, true_and, exists_const, List.replicate, Nat.sub_self, Nat.reduceAdd, Nat.reduceSub, if_true, if_false, Bool.false_eq_true, ite_true, ite_false, reduceIte]
    refine ⟨_, _, _, hx, T.cls.2.2.2.2, T.noA.1, by decide, ?_⟩
    refine ⟨_, _, _, upd_same, T.cls.2.2.2.2, T.noA.2, by show (1 : Nat) < 1000; decide, ?_⟩
    rw [upd_upd]
    exact k
def spCheckAction (K : PySem.W.Frag) : Sp := fun vs H Q _ => ∃ (a dx : Addr) (fs : List (Str × V)), vs = [.ref a] ∧ H a = some (.ins (ga K "Action") dx fs) ∧ Q .non H
abbrev N_check_action : List Str := ["value"]
theorem sc_check_action : FnScope N_check_action ["value"] (defScope (top 100)) := ⟨rfl, rfl, rfl, by decide +kernel, rfl, by decide +kernel, by decide +kernel⟩
theorem F_check_action (T : TX w K mg) : Fn P w K mg base 1 "check_action" (spCheckAction K) := by
  obtain ⟨fd, F⟩ := T.fi 39
  have nd := sc_check_action.nd
  refine ⟨_, raw0 F sc_check_action (fun vs H Q E h => ?_) (fun _ _ _ _ _ _ us hl => match us, hl with | [_], _ => rfl) (fun cdv A outer s H vs Q E hr h => ?_), T.g "check_action", F.kp⟩
  · obtain ⟨a, dx, fs, rfl, e, k⟩ := h
    rfl
  · obtain ⟨a, dx, fs, rfl, e, k⟩ := h
    refine ⟨_, (pss_one (ps_if (pt_not (pt_val (pe_callB call_isi (by rfl) (T.z "isinstance") (by decide +kernel) (pa_cons (pv 0) (pa_cons (pe_K rfl (T.g "Action")) pa_nil))))) (pss_one (ps_never)) pss_nil)), ?_⟩
    simp only [tSeq, tRet, tRetN, tAsg, tIf, tIfS, tNext, tTest, tB, cx_K, cx_w, cx_nK, cx_nw, tOp, tUn, tVar, tC, tCons, tNil, tTup, tLst, tF, tM1, tCB, tAnd, tOr, tNot, tAndV, tOrV, tNotV, tChain, tFld, tPart, tNoPart, tSl, rU, rI0, rI, rEq, rNe, rIxD, rIxL, rIxT, rLen, rIsi, rLenQ, rTupOf, rIn, rSlL, rNewStrs, rAppend, rCat, gUnl, tDrop, wipe, List.foldl_cons, List.foldl_nil, StX.tMakeR, sFld, tLenSetN, tDictZip, rIndex, rSorted, rSortedT, rSetOfT, tPar, tPar3, tBM, rSum, rAll, rAny, tNever, gName, gTup, gCons, gNil, L2.start, List.map_cons, List.map_nil, List.length_cons, List.length_nil, List.cons_append, List.nil_append, List.set_cons_zero, List.set_cons_succ, List.getElem?_cons_zero, List.getElem?_cons_succ, Option.some.injEq, V.int.injEq, V.str.injEq, V.bl.injEq, V.ref.injEq, V.ty.injEq, List.cons.injEq, exists_and_left, exists_and_right, exists_eq_left, exists_eq_left', exists_eq, exists_eq', and_true, true_and, exists_const, List.replicate, Nat.sub_self, Nat.reduceAdd, Nat.reduceSub, if_true, if_false, Bool.false_eq_true, ite_true, ite_false, reduceIte]
    obtain ⟨ty, kt⟩ := isi_own T.e.insA T.cls.2.2.2.2 e
    exact ⟨_, _, ⟨rfl, rfl⟩, _, _, .own _, ty, _, kt, iteF k⟩
def spFalls (K : PySem.W.Frag) : Sp := fun vs H Q _ => ∃ (a dx m g : Addr), vs = [.ref a] ∧ H a = some (.ins (ga K "Action") dx [("moves", .ref m), ("gaps", .ref g)]) ∧ Q (.ref g) H
/-- whether moves are the same -/
def sameM (ms ms' : Nat → List Int) (i : Nat) : Bool := decide (ms i = ms' i)
theorem eqv_moves (xs ys : List Int) : PyData.eqv (.tuple (xs.map PyData.int)) (.tuple (ys.map PyData.int)) = decide (xs = ys) := eqv_ints xs ys
def inSet (few : List Int) (e o : Option Int) (n : Int) : Bool := decide (n ∈ few) || goesOn e o n
def agreeAt (ms ms' : Nat → List Int) (n : Int) : Bool := (standing n).all (sameM ms ms')
theorem inSet_none {n : Int} : inSet [] none none n = false := by
  unfold inSet goesOn
  split <;> rename_i h
  · rfl
  · split at h <;> cases h
theorem in_sizes {H : Hp} {g : Addr} {few : List Int} {e o : Option Int} {n : Int} {Q : VK} (h : SizesAt K H g few e o) (hq : Q (.bl (inSet few e o n)) H) : rOwnIn (ga K "Sizes") (spSizesContains K) false (.int n) (.ref g) H Q := by
  obtain ⟨dx, t, f, e1, e2⟩ := id h
  exact ⟨g, dx, _, rfl, e1, g, few, e, o, n, rfl, h, _, rfl, hq⟩
theorem in_none {H : Hp} {g : Addr} {n : Int} {Q : VK} (h : SizesAt K H g [] none none) (hq : Q (.bl false) H) : rOwnIn (ga K "Sizes") (spSizesContains K) false (.int n) (.ref g) H Q := in_sizes h (by rw [inSet_none]; exact hq)
theorem ne_sizes {H : Hp} {g g' : Addr} {few few' : List Int} {e o e' o' : Option Int} {Q : VK} (h : SizesAt K H g few e o) (h' : SizesAt K H g' few' e' o') (hq : Q (.bl (!decide ((few, e, o) = (few', e', o')))) H) : rOwnEq (ga K "Sizes") (spSizesEq K) true (.ref g) (.ref g') H Q := by
  obtain ⟨dx, t, f, e1, _⟩ := id h
  obtain ⟨dx', t', f', e1', _⟩ := id h'
  exact ⟨g, g', dx, dx', _, _, rfl, rfl, e1, e1', g, g', few, few', e, o, e', o', rfl, h, h', _, rfl, hq⟩
theorem eq_sizes {H : Hp} {g g' : Addr} {few few' : List Int} {e o e' o' : Option Int} {Q : VK} (h : SizesAt K H g few e o) (h' : SizesAt K H g' few' e' o') (hq : Q (.bl (decide ((few, e, o) = (few', e', o')))) H) : rOwnEq (ga K "Sizes") (spSizesEq K) false (.ref g) (.ref g') H Q := by
  obtain ⟨dx, t, f, e1, _⟩ := id h
  obtain ⟨dx', t', f', e1', _⟩ := id h'
  exact ⟨g, g', dx, dx', _, _, rfl, rfl, e1, e1', g, g', few, few', e, o, e', o', rfl, h, h', _, rfl, hq⟩
theorem metOf_lt {ns : List Int} : ∀ i ∈ metOf ns, i < 24 := fun i h => List.mem_range.mp (List.mem_filter.mp h).1
theorem range_mapD {α β : Type} (d : α) (g : α → β) (l : List α) : (List.range l.length).map (fun j => g (l.getD j d)) = l.map g := by
  refine List.ext_getElem? fun i => ?_
  rw [List.getElem?_map, List.getElem?_map]
  by_cases h : i < l.length
  · rw [List.getElem?_range h, List.getElem?_eq_getElem h, Option.map_some, Option.map_some, List.getD_eq_getElem?_getD, List.getElem?_eq_getElem h, Option.getD_some]
  · rw [List.getElem?_eq_none (l := List.range l.length) (by rw [List.length_range]; omega), List.getElem?_eq_none (l := l) (by omega)]
    rfl
/-- two actions that fall at no size -/
def spAgreeAt (P : Program) (w : World) (K : PySem.W.Frag) : Sp := fun vs H Q _ => ∃ (a b : Addr) (n : Int) (ms ms' : Nat → List Int), vs = [.ref a, .ref b, .int n] ∧ ActAt P w K H a ms [] none none ∧ ActAt P w K H b ms' [] none none ∧
  ∀ H', Same H H' → Q (.bl (agreeAt ms ms' n)) H'
abbrev N_agree_at : List Str := ["one", "other", "size", "kind"]
theorem sc_agree_at : FnScope N_agree_at ["one", "other", "size"] (defScope (top 103)) := ⟨rfl, rfl, rfl, by decide +kernel, rfl, by decide +kernel, by decide +kernel⟩
theorem F_agree_at (T : TX w K mg) : Fn P w K mg base 4 "agree_at" (spAgreeAt P w K) := by
  obtain ⟨fd, F⟩ := T.fi 40
  have nd := sc_agree_at.nd
  have F_Sizes_contains := F_Sizes_contains (P := P) (base := base) T
  have F_standing_kinds := F_standing_kinds (P := P) (base := base) T
  refine ⟨_, raw0 F sc_agree_at (fun vs H Q E h => ?_) (fun _ _ _ _ _ _ us hl => match us, hl with | [_, _, _], _ => rfl) (fun cdv A outer s H vs Q E hr h => ?_), T.g "agree_at", F.kp⟩
  · obtain ⟨a, b, n, ms, ms', rfl, ha, hb, k⟩ := h
    rfl
  · obtain ⟨a, b, n, ms, ms', rfl, ha, hb, k⟩ := h
    refine ⟨_, (pss_cons (ps_if (PW.pt (pw_or (pt_cmpR (r := rOwnIn (ga K "Sizes") (spSizesContains K) false) (op_inOwn T.mC.1 T.mC.2.1 F_Sizes_contains (hr.mono (by decide))) (pv 2) (pe_fld (pv 0) rfl) (by rfl)) (pw_or1 (pt_cmpR (r := rOwnIn (ga K "Sizes") (spSizesContains K) false) (op_inOwn T.mC.1 T.mC.2.1 F_Sizes_contains (hr.mono (by decide))) (pv 2) (pe_fld (pv 1) rfl) (by rfl))))) (pss_one (ps_ret (pe_and (pe_cmpR (r := rOwnIn (ga K "Sizes") (spSizesContains K) false) (op_inOwn T.mC.1 T.mC.2.1 F_Sizes_contains (hr.mono (by decide))) (pv 2) (pe_fld (pv 0) rfl) (by rfl)) (pe_one (pe_cmpR (r := rOwnIn (ga K "Sizes") (spSizesContains K) false) (op_inOwn T.mC.1 T.mC.2.1 F_Sizes_contains (hr.mono (by decide))) (pv 2) (pe_fld (pv 1) rfl) (by rfl)))))) pss_nil)
    (pss_one (ps_ret (pe_callB (cr_all rfl) (by rfl) (T.z "all") (by decide +kernel) (pa_cons (pe_lc (own := [("kind", 3)]) (g := gName 3) (tt := tYes) (by rfl) nd (pi_tup (pe_f F_standing_kinds hr (pa_cons (pv 2) pa_nil))) (blkOk_by (own := [("kind", 3)]) (N := N_agree_at) (sc := (defScope (top 103))) (by decide +kernel)) (fun _ _ _ _ _ => (pg_name (i := 3) nd rfl (Or.inl rfl))) (fun _ _ _ _ _ => pts_nil) (fun _ _ _ _ _ => (pe_cmpR (r := rEqD K) (op_eqD hr.units) (pe_mgetP P w K ((pe_fld (pv 0) rfl : PE _ _ (tFld K _ "moves"))) (pv 3) (fun _ _ => rfl) rfl rfl rfl (hu_of hr)) (pe_mgetP P w K ((pe_fld (pv 1) rfl : PE _ _ (tFld K _ "moves"))) (pv 3) (fun _ _ => rfl) rfl rfl rfl (hu_of hr)) (nomark _)))) pa_nil))))), ?_⟩
    obtain ⟨dx, D, g, a1, a2, a3⟩ := id ha
    obtain ⟨dy, D', g', b1, b2, b3⟩ := id hb
    refine seqG fun R hR => ?_
    simp only [tSeq, tRet, tRetN, tAsg, tIf, tIfS, tNext, tTest, tB, cx_K, cx_w, cx_nK, cx_nw, tOp, tUn, tVar, tC, tCons, tNil, tTup, tLst, tF, tM1, tCB, tAnd, tOr, tNot, tAndV, tOrV, tNotV, tChain, tFld, tPart, tNoPart, tSl, rU, rI0, rI, rEq, rNe, rIxD, rIxL, rIxT, rLen, rIsi, rLenQ, rTupOf, rIn, rSlL, rNewStrs, rAppend, rCat, gUnl, tDrop, wipe, List.foldl_cons, List.foldl_nil, StX.tMakeR, sFld, tLenSetN, tDictZip, rIndex, rSorted, rSortedT, rSetOfT, tPar, tPar3, tBM, rSum, rAll, rAny, tNever, gName, gTup, gCons, gNil, L2.start, List.map_cons, List.map_nil, List.length_cons, List.length_nil, List.cons_append, List.nil_append, List.set_cons_zero, List.set_cons_succ, List.getElem?_cons_zero, List.getElem?_cons_succ, Option.some.injEq, V.int.injEq, V.str.injEq, V.bl.injEq, V.ref.injEq, V.ty.injEq, List.cons.injEq, exists_and_left, exists_and_right, exists_eq_left, exists_eq_left', exists_eq, exists_eq', and_true, true_and, exists_const, List.replicate, Nat.sub_self, Nat.reduceAdd, Nat.reduceSub, if_true, if_false, Bool.false_eq_true, ite_true, ite_false, reduceIte]
    refine ⟨_, _, _, a1, T.cls.2.2.2.2, T.noA.2, _, rfl, in_none a3 ⟨_, rfl, iteF ⟨_, _, _, b1, T.cls.2.2.2.2, T.noA.2, _, rfl, in_none b3 ⟨_, rfl, iteF ?_⟩⟩⟩⟩
    rw [hR]; clear hR R
    simp only [tSeq, tRet, tRetN, tAsg, tIf, tIfS, tNext, tTest, tB, cx_K, cx_w, cx_nK, cx_nw, tOp, tUn, tVar, tC, tCons, tNil, tTup, tLst, tF, tM1, tCB, tAnd, tOr, tNot, tAndV, tOrV, tNotV, tChain, tFld, tPart, tNoPart, tSl, rU, rI0, rI, rEq, rNe, rIxD, rIxL, rIxT, rLen, rIsi, rLenQ, rTupOf, rIn, rSlL, rNewStrs, rAppend, rCat, gUnl, tDrop, wipe, List.foldl_cons, List.foldl_nil, StX.tMakeR, sFld, tLenSetN, tDictZip, rIndex, rSorted, rSortedT, rSetOfT, tPar, tPar3, tBM, rSum, rAll, rAny, tNever, gName, gTup, gCons, gNil, L2.start, List.map_cons, List.map_nil, List.length_cons, List.length_nil, List.cons_append, List.nil_append, List.set_cons_zero, List.set_cons_succ, List.getElem?_cons_zero, List.getElem?_cons_succ, Option.some.injEq, V.int.injEq, V.str.injEq, V.bl.injEq, V.ref.injEq, V.ty.injEq, List.cons.injEq, exists_and_left, exists_and_right, exists_eq_left, exists_eq_left', exists_eq, exists_eq', and_true, true_and, exists_const, List.replicate, Nat.sub_self, Nat.reduceAdd, Nat.reduceSub, if_true, if_false, Bool.false_eq_true, ite_true, ite_false, reduceIte]
    refine ⟨_, rfl, n, rfl, fun H1 t s1 e1 => ⟨t, rfl, ⟨_, .of e1⟩, fun D1 hD1 => lcm walk_tup (by rw [List.length_map, sizeLine_eq]; have := List.length_filter_le (fun i => stands (kindAt i) n) (List.range 24); rw [List.length_range] at this; unfold standing; omega) hD1 (fun j => V.bl (sameM ms ms' ((standing n).getD j 0))) (fun H sa => .of (sa _ _ e1)) (fun j x H5 H' Q5 hj sa5 y hq => ?_) (fun H5 sa5 e5 => ?_)⟩⟩
    · obtain ⟨rfl, hx⟩ := y
      rw [List.getElem?_map] at hx
      obtain ⟨i, hi, rfl⟩ := Option.map_eq_some_iff.mp hx
      have hi24 := standing_lt i (List.mem_of_getElem? hi)
      have s15 := s1.trans sa5
      refine ⟨rfl, ?_⟩
      simp only [tSeq, tRet, tRetN, tAsg, tIf, tIfS, tNext, tTest, tB, cx_K, cx_w, cx_nK, cx_nw, tOp, tUn, tVar, tC, tCons, tNil, tTup, tLst, tF, tM1, tCB, tAnd, tOr, tNot, tAndV, tOrV, tNotV, tChain, tFld, tPart, tNoPart, tSl, rU, rI0, rI, rEq, rNe, rIxD, rIxL, rIxT, rLen, rIsi, rLenQ, rTupOf, rIn, rSlL, rNewStrs, rAppend, rCat, gUnl, tDrop, wipe, List.foldl_cons, List.foldl_nil, StX.tMakeR, sFld, tLenSetN, tDictZip, rIndex, rSorted, rSortedT, rSetOfT, tPar, tPar3, tBM, rSum, rAll, rAny, tNever, gName, gTup, gCons, gNil, L2.start, List.map_cons, List.map_nil, List.length_cons, List.length_nil, List.cons_append, List.nil_append, List.set_cons_zero, List.set_cons_succ, List.getElem?_cons_zero, List.getElem?_cons_succ, Option.some.injEq, V.int.injEq, V.str.injEq, V.bl.injEq, V.ref.injEq, V.ty.injEq, List.cons.injEq, exists_and_left, exists_and_right, exists_eq_left, exists_eq_left', exists_eq, exists_eq', and_true, true_and, exists_const, List.replicate, Nat.sub_self, Nat.reduceAdd, Nat.reduceSub, if_true, if_false, Bool.false_eq_true, ite_true, ite_false, reduceIte, tMGet]
      obtain ⟨ad, p1, p2⟩ := a2.same s15
      obtain ⟨ad', q1, q2⟩ := b2.same s15
      refine ⟨_, _, _, s15 _ _ a1, T.cls.2.2.2.2, T.noA.1, _, rfl, D, rfl, _, p1, keys_there T ad (Nat.le_refl _), kKey i, kSq T hi24, _, _, at_key ad hi24, _, _, _, s15 _ _ b1, T.cls.2.2.2.2, T.noA.1, _, rfl, D', rfl, _, q1, keys_there T ad' (Nat.le_refl _), kKey i, kSq T hi24, _, _, at_key ad' hi24, .tuple ((ms i).map PyData.int), .tuple ((ms' i).map PyData.int), .tup (.of (p2 i hi24)) (dpAll_ints _), .tup (.of (q2 i hi24)) (dpAll_ints _), shaped_ints _, shaped_ints _, ?_⟩
      rw [eqv_moves]
      have q := hq _ (Same.refl _)
      rw [List.getD_eq_getElem?_getD, hi] at q
      exact q
    · refine ⟨D1, rfl, (standing n).map (sameM ms ms'), .of ?_, ?_⟩
      · rw [e5, List.length_map, range_mapD 0 (fun i => V.bl (sameM ms ms' i)), List.map_map]
        rfl
      · rw [List.all_map]
        exact k _ (s1.trans sa5)
def spAgree (P : Program) (w : World) (K : PySem.W.Frag) : Sp := fun vs H Q _ => ∃ (a b : Addr) (ms ms' : Nat → List Int) (bs : List Bool), vs = [.ref a, .ref b] ∧ ActAt P w K H a ms [] none none ∧ ActAt P w K H b ms' [] none none ∧
  bs = ((List.range 11).map fun k => agreeAt ms ms' (((k : Nat) : Int) + 1)) ∧ ∀ H' t, Same H H' → H t = none → SizesAt K H' t (szFew bs) (szE bs) (szO bs) → Q (.ref t) H'
abbrev N_agree : List Str := ["one", "other", "size"]
theorem sc_agree : FnScope N_agree ["one", "other"] (defScope (top 104)) := ⟨rfl, rfl, rfl, by decide +kernel, rfl, by decide +kernel, by decide +kernel⟩
theorem F_agree (T : TX w K mg) : Fn P w K mg base 7 "agree" (spAgree P w K) := by
  obtain ⟨fd, F⟩ := T.fi 41
  have nd := sc_agree.nd
  have F_check_action := F_check_action (P := P) (base := base) T
  have F_agree_at := F_agree_at (P := P) (base := base) T
  have F_sizes_where := F_sizes_where (P := P) (base := base) T
  refine ⟨_, raw0 F sc_agree (fun vs H Q E h => ?_) (fun _ _ _ _ _ _ us hl => match us, hl with | [_, _], _ => rfl) (fun cdv A outer s H vs Q E hr h => ?_), T.g "agree", F.kp⟩
  · obtain ⟨a, b, ms, ms', bs, rfl, ha, hb, hbs, k⟩ := h
    rfl
  · obtain ⟨a, b, ms, ms', bs, rfl, ha, hb, hbs, k⟩ := h
    refine ⟨_, (pss_cons (ps_expr (pe_f F_check_action hr (pa_cons (pv 0) pa_nil)))
    (pss_cons (ps_expr (pe_f F_check_action hr (pa_cons (pv 1) pa_nil)))
    (pss_one (ps_ret (pe_f F_sizes_where hr (pa_cons (pe_lc (own := [("size", 2)]) (g := gName 2) (tt := tYes) (by rfl) nd (pi_range2 (by rfl) (T.z "range") (pa_cons (pe_int) (pa_cons (pe_op op_add (pe_gi rfl T.deciding) (pe_int)) pa_nil))) (blkOk_by (own := [("size", 2)]) (N := N_agree) (sc := (defScope (top 104))) (by decide +kernel)) (fun _ _ _ _ _ => (pg_name (i := 2) nd rfl (Or.inl rfl))) (fun _ _ _ _ _ => pts_nil) (fun _ _ _ _ _ => (pe_f F_agree_at hr (pa_cons (pv 0) (pa_cons (pv 1) (pa_cons (pv 2) pa_nil)))))) pa_nil)))))), ?_⟩
    refine seqG fun R hR => ?_
    simp only [tSeq, tRet, tRetN, tAsg, tIf, tIfS, tNext, tTest, tB, cx_K, cx_w, cx_nK, cx_nw, tOp, tUn, tVar, tC, tCons, tNil, tTup, tLst, tF, tM1, tCB, tAnd, tOr, tNot, tAndV, tOrV, tNotV, tChain, tFld, tPart, tNoPart, tSl, rU, rI0, rI, rEq, rNe, rIxD, rIxL, rIxT, rLen, rIsi, rLenQ, rTupOf, rIn, rSlL, rNewStrs, rAppend, rCat, gUnl, tDrop, wipe, List.foldl_cons, List.foldl_nil, StX.tMakeR, sFld, tLenSetN, tDictZip, rIndex, rSorted, rSortedT, rSetOfT, tPar, tPar3, tBM, rSum, rAll, rAny, tNever, gName, gTup, gCons, gNil, L2.start, List.map_cons, List.map_nil, List.length_cons, List.length_nil, List.cons_append, List.nil_append, List.set_cons_zero, List.set_cons_succ, List.getElem?_cons_zero, List.getElem?_cons_succ, Option.some.injEq, V.int.injEq, V.str.injEq, V.bl.injEq, V.ref.injEq, V.ty.injEq, List.cons.injEq, exists_and_left, exists_and_right, exists_eq_left, exists_eq_left', exists_eq, exists_eq', and_true, true_and, exists_const, List.replicate, Nat.sub_self, Nat.reduceAdd, Nat.reduceSub, if_true, if_false, Bool.false_eq_true, ite_true, ite_false, reduceIte]
    obtain ⟨dx, D, g, a1, _⟩ := id ha
    obtain ⟨dy, D', g', b1, _⟩ := id hb
    refine ⟨a, dx, _, rfl, a1, ?_⟩
    rw [hR]; clear hR R
    refine seqG fun R hR => ?_
    simp only [tSeq, tRet, tRetN, tAsg, tIf, tIfS, tNext, tTest, tB, cx_K, cx_w, cx_nK, cx_nw, tOp, tUn, tVar, tC, tCons, tNil, tTup, tLst, tF, tM1, tCB, tAnd, tOr, tNot, tAndV, tOrV, tNotV, tChain, tFld, tPart, tNoPart, tSl, rU, rI0, rI, rEq, rNe, rIxD, rIxL, rIxT, rLen, rIsi, rLenQ, rTupOf, rIn, rSlL, rNewStrs, rAppend, rCat, gUnl, tDrop, wipe, List.foldl_cons, List.foldl_nil, StX.tMakeR, sFld, tLenSetN, tDictZip, rIndex, rSorted, rSortedT, rSetOfT, tPar, tPar3, tBM, rSum, rAll, rAny, tNever, gName, gTup, gCons, gNil, L2.start, List.map_cons, List.map_nil, List.length_cons, List.length_nil, List.cons_append, List.nil_append, List.set_cons_zero, List.set_cons_succ, List.getElem?_cons_zero, List.getElem?_cons_succ, Option.some.injEq, V.int.injEq, V.str.injEq, V.bl.injEq, V.ref.injEq, V.ty.injEq, List.cons.injEq, exists_and_left, exists_and_right, exists_eq_left, exists_eq_left', exists_eq, exists_eq', and_true, true_and, exists_const, List.replicate, Nat.sub_self, Nat.reduceAdd, Nat.reduceSub, if_true, if_false, Bool.false_eq_true, ite_true, ite_false, reduceIte]
    refine ⟨b, dy, _, rfl, b1, ?_⟩
    rw [hR]; clear hR R
    simp only [tSeq, tRet, tRetN, tAsg, tIf, tIfS, tNext, tTest, tB, cx_K, cx_w, cx_nK, cx_nw, tOp, tUn, tVar, tC, tCons, tNil, tTup, tLst, tF, tM1, tCB, tAnd, tOr, tNot, tAndV, tOrV, tNotV, tChain, tFld, tPart, tNoPart, tSl, rU, rI0, rI, rEq, rNe, rIxD, rIxL, rIxT, rLen, rIsi, rLenQ, rTupOf, rIn, rSlL, rNewStrs, rAppend, rCat, gUnl, tDrop, wipe, List.foldl_cons, List.foldl_nil, StX.tMakeR, sFld, tLenSetN, tDictZip, rIndex, rSorted, rSortedT, rSetOfT, tPar, tPar3, tBM, rSum, rAll, rAny, tNever, gName, gTup, gCons, gNil, L2.start, List.map_cons, List.map_nil, List.length_cons, List.length_nil, List.cons_append, List.nil_append, List.set_cons_zero, List.set_cons_succ, List.getElem?_cons_zero, List.getElem?_cons_succ, Option.some.injEq, V.int.injEq, V.str.injEq, V.bl.injEq, V.ref.injEq, V.ty.injEq, List.cons.injEq, exists_and_left, exists_and_right, exists_eq_left, exists_eq_left', exists_eq, exists_eq', and_true, true_and, exists_const, List.replicate, Nat.sub_self, Nat.reduceAdd, Nat.reduceSub, if_true, if_false, Bool.false_eq_true, ite_true, ite_false, reduceIte]
    refine ⟨11, 1, rfl, rfl, 1, 11 + 1, rfl, ⟨by decide, by decide, by decide, by decide⟩, fun D hD => lcm (walk_range (lo := 1) (n := 11)) (by rw [sizeLine_eq]; decide) hD (fun j => V.bl (agreeAt ms ms' (((j : Nat) : Int) + 1))) (fun _ _ => trivial) (fun j x H5 H' Q5 hj sa5 y hq => ?_) (fun H5 sa5 e5 => ?_)⟩
    · obtain ⟨rfl, rfl⟩ := y
      refine ⟨rfl, ?_⟩
      simp only [tSeq, tRet, tRetN, tAsg, tIf, tIfS, tNext, tTest, tB, cx_K, cx_w, cx_nK, cx_nw, tOp, tUn, tVar, tC, tCons, tNil, tTup, tLst, tF, tM1, tCB, tAnd, tOr, tNot, tAndV, tOrV, tNotV, tChain, tFld, tPart, tNoPart, tSl, rU, rI0, rI, rEq, rNe, rIxD, rIxL, rIxT, rLen, rIsi, rLenQ, rTupOf, rIn, rSlL, rNewStrs, rAppend, rCat, gUnl, tDrop, wipe, List.foldl_cons, List.foldl_nil, StX.tMakeR, sFld, tLenSetN, tDictZip, rIndex, rSorted, rSortedT, rSetOfT, tPar, tPar3, tBM, rSum, rAll, rAny, tNever, gName, gTup, gCons, gNil, L2.start, List.map_cons, List.map_nil, List.length_cons, List.length_nil, List.cons_append, List.nil_append, List.set_cons_zero, List.set_cons_succ, List.getElem?_cons_zero, List.getElem?_cons_succ, Option.some.injEq, V.int.injEq, V.str.injEq, V.bl.injEq, V.ref.injEq, V.ty.injEq, List.cons.injEq, exists_and_left, exists_and_right, exists_eq_left, exists_eq_left', exists_eq, exists_eq', and_true, true_and, exists_const, List.replicate, Nat.sub_self, Nat.reduceAdd, Nat.reduceSub, if_true, if_false, Bool.false_eq_true, ite_true, ite_false, reduceIte]
      exact ⟨a, b, 1 + (j : Nat), ms, ms', rfl, ha.same sa5, hb.same sa5, fun H6 s6 => by rw [Int.add_comm]; exact hq _ s6⟩
    · exact ⟨D, bs, rfl, by rw [hbs]; rfl, .of (by rw [e5, hbs, List.map_map]; rfl), fun H' t s' ht hs => k _ t (sa5.trans s') (Same.free sa5 ht) hs⟩
def spActEq (P : Program) (w : World) (K : PySem.W.Frag) : Sp := fun vs H Q _ => ∃ (a b : Addr) (ms ms' : Nat → List Int), vs = [.ref a, .ref b] ∧ ActAt P w K H a ms [] none none ∧ ActAt P w K H b ms' [] none none ∧
  ∀ H', Same H H' → Q (.bl ((metOf (outSz [] none none)).all (sameM ms ms'))) H'
abbrev N_Action_eq : List Str := ["self", "other", "kind"]
theorem sc_Action_eq : FnScope N_Action_eq ["self", "other"] (defScope (inClass (top 99) 10)) := ⟨rfl, rfl, rfl, by decide +kernel, rfl, by decide +kernel, by decide +kernel⟩
theorem F_Action_eq (T : TX w K mg) : FnR P w K mg base CX0 5 (ma K (ga K "Action") "__eq__") (spActEq P w K) := by
  obtain ⟨fd, F⟩ := T.fi 62
  have nd := sc_Action_eq.nd
  have F_Sizes_eq := F_Sizes_eq (P := P) (base := base) T
  have F_met_kinds := F_met_kinds (P := P) (base := base) T
  refine raw0 F sc_Action_eq (fun vs H Q E h => ?_) (fun _ _ _ _ _ _ us hl => match us, hl with | [_, _], _ => rfl) (fun cdv A outer s H vs Q E hr h => ?_)
  · obtain ⟨a, b, ms, ms', rfl, ha, hb, k⟩ := h
    rfl
  · obtain ⟨a, b, ms, ms', rfl, ha, hb, k⟩ := h
    refine ⟨_, (pss_cons (ps_if (pt_not (pt_val (pe_callB call_isi (by rfl) (T.z "isinstance") (by decide +kernel) (pa_cons (pv 1) (pa_cons (pe_K rfl (T.g "Action")) pa_nil))))) (pss_one ps_never) pss_nil)
    (pss_cons (ps_if (pt_cmpR (r := rOwnEq (ga K "Sizes") (spSizesEq K) true) (op_neOwn T.e.ne T.mQ.2.1 F_Sizes_eq (hr.mono (by decide))) (pe_fld (pv 0) rfl) (pe_fld (pv 1) rfl) (nomark _)) (pss_one (ps_ret (pe_bl))) pss_nil)
    (pss_one (ps_ret (pe_callB (cr_all rfl) (by rfl) (T.z "all") (by decide +kernel) (pa_cons (pe_lc (own := [("kind", 2)]) (g := gName 2) (tt := tYes) (by rfl) nd (pi_list (pe_f F_met_kinds hr (pa_cons (pe_fld (pv 0) rfl) pa_nil))) (blkOk_by (own := [("kind", 2)]) (N := N_Action_eq) (sc := (defScope (inClass (top 99) 10))) (by decide +kernel)) (fun _ _ _ _ _ => (pg_name (i := 2) nd rfl (Or.inl rfl))) (fun _ _ _ _ _ => pts_nil) (fun _ _ _ _ _ => (pe_cmpR (r := rEqD K) (op_eqD hr.units) (pe_mgetP P w K ((pe_fld (pv 0) rfl : PE _ _ (tFld K _ "moves"))) (pv 2) (fun _ _ => rfl) rfl rfl rfl (hu_of hr)) (pe_mgetP P w K ((pe_fld (pv 1) rfl : PE _ _ (tFld K _ "moves"))) (pv 2) (fun _ _ => rfl) rfl rfl rfl (hu_of hr)) (nomark _)))) pa_nil)))))), ?_⟩
    obtain ⟨dx, D, g, a1, a2, a3⟩ := id ha
    obtain ⟨dy, D', g', b1, b2, b3⟩ := id hb
    refine seqG fun R hR => ?_
    simp only [tSeq, tRet, tRetN, tAsg, tIf, tIfS, tNext, tTest, tB, cx_K, cx_w, cx_nK, cx_nw, tOp, tUn, tVar, tC, tCons, tNil, tTup, tLst, tF, tM1, tCB, tAnd, tOr, tNot, tAndV, tOrV, tNotV, tChain, tFld, tPart, tNoPart, tSl, rU, rI0, rI, rEq, rNe, rIxD, rIxL, rIxT, rLen, rIsi, rLenQ, rTupOf, rIn, rSlL, rNewStrs, rAppend, rCat, gUnl, tDrop, wipe, List.foldl_cons, List.foldl_nil, StX.tMakeR, sFld, tLenSetN, tDictZip, rIndex, rSorted, rSortedT, rSetOfT, tPar, tPar3, tBM, rSum, rAll, rAny, tNever, gName, gTup, gCons, gNil, L2.start, List.map_cons, List.map_nil, List.length_cons, List.length_nil, List.cons_append, List.nil_append, List.set_cons_zero, List.set_cons_succ, List.getElem?_cons_zero, List.getElem?_cons_succ, Option.some.injEq, V.int.injEq, V.str.injEq, V.bl.injEq, V.ref.injEq, V.ty.injEq, List.cons.injEq, exists_and_left, exists_and_right, exists_eq_left, exists_eq_left', exists_eq, exists_eq', and_true, true_and, exists_const, List.replicate, Nat.sub_self, Nat.reduceAdd, Nat.reduceSub, if_true, if_false, Bool.false_eq_true, ite_true, ite_false, reduceIte]
    obtain ⟨ty, kt⟩ := isi_own T.e.insA T.cls.2.2.2.2 b1
    refine ⟨_, _, ⟨rfl, rfl⟩, _, _, .own _, ty, _, kt, iteF ?_⟩
    rw [hR]; clear hR R
    refine seqG fun R hR => ?_
    simp only [tSeq, tRet, tRetN, tAsg, tIf, tIfS, tNext, tTest, tB, cx_K, cx_w, cx_nK, cx_nw, tOp, tUn, tVar, tC, tCons, tNil, tTup, tLst, tF, tM1, tCB, tAnd, tOr, tNot, tAndV, tOrV, tNotV, tChain, tFld, tPart, tNoPart, tSl, rU, rI0, rI, rEq, rNe, rIxD, rIxL, rIxT, rLen, rIsi, rLenQ, rTupOf, rIn, rSlL, rNewStrs, rAppend, rCat, gUnl, tDrop, wipe, List.foldl_cons, List.foldl_nil, StX.tMakeR, sFld, tLenSetN, tDictZip, rIndex, rSorted, rSortedT, rSetOfT, tPar, tPar3, tBM, rSum, rAll, rAny, tNever, gName, gTup, gCons, gNil, L2.start, List.map_cons, List.map_nil, List.length_cons, List.length_nil, List.cons_append, List.nil_append, List.set_cons_zero, List.set_cons_succ, List.getElem?_cons_zero, List.getElem?_cons_succ, Option.some.injEq, V.int.injEq, V.str.injEq, V.bl.injEq, V.ref.injEq, V.ty.injEq, List.cons.injEq, exists_and_left, exists_and_right, exists_eq_left, exists_eq_left', exists_eq, exists_eq', and_true, true_and, exists_const, List.replicate, Nat.sub_self, Nat.reduceAdd, Nat.reduceSub, if_true, if_false, Bool.false_eq_true, ite_true, ite_false, reduceIte]
    refine ⟨_, _, _, a1, T.cls.2.2.2.2, T.noA.2, _, rfl, _, _, _, b1, T.cls.2.2.2.2, T.noA.2, _, rfl, ne_sizes a3 b3 ⟨_, rfl, iteF ?_⟩⟩
    rw [hR]; clear hR R
    simp only [tSeq, tRet, tRetN, tAsg, tIf, tIfS, tNext, tTest, tB, cx_K, cx_w, cx_nK, cx_nw, tOp, tUn, tVar, tC, tCons, tNil, tTup, tLst, tF, tM1, tCB, tAnd, tOr, tNot, tAndV, tOrV, tNotV, tChain, tFld, tPart, tNoPart, tSl, rU, rI0, rI, rEq, rNe, rIxD, rIxL, rIxT, rLen, rIsi, rLenQ, rTupOf, rIn, rSlL, rNewStrs, rAppend, rCat, gUnl, tDrop, wipe, List.foldl_cons, List.foldl_nil, StX.tMakeR, sFld, tLenSetN, tDictZip, rIndex, rSorted, rSortedT, rSetOfT, tPar, tPar3, tBM, rSum, rAll, rAny, tNever, gName, gTup, gCons, gNil, L2.start, List.map_cons, List.map_nil, List.length_cons, List.length_nil, List.cons_append, List.nil_append, List.set_cons_zero, List.set_cons_succ, List.getElem?_cons_zero, List.getElem?_cons_succ, Option.some.injEq, V.int.injEq, V.str.injEq, V.bl.injEq, V.ref.injEq, V.ty.injEq, List.cons.injEq, exists_and_left, exists_and_right, exists_eq_left, exists_eq_left', exists_eq, exists_eq', and_true, true_and, exists_const, List.replicate, Nat.sub_self, Nat.reduceAdd, Nat.reduceSub, if_true, if_false, Bool.false_eq_true, ite_true, ite_false, reduceIte]
    refine ⟨_, rfl, a, _, _, _, _, rfl, a1, T.cls.2.2.2.2, T.noA.2, rfl, g, _, _, _, rfl, a3, fun H1 t s1 e1 => ⟨t, rfl, ⟨_, .of e1⟩, fun D1 hD1 => lcm walk_list (by rw [List.length_map, sizeLine_eq]; have := List.length_filter_le (fun i => (outSz [] none none).any fun n => stands (kindAt i) n) (List.range 24); rw [List.length_range] at this; unfold metOf; omega) hD1 (fun j => V.bl (sameM ms ms' ((metOf (outSz [] none none)).getD j 0))) (fun H sa => .of (sa _ _ e1)) (fun j x H5 H' Q5 hj sa5 y hq => ?_) (fun H5 sa5 e5 => ?_)⟩⟩
    · obtain ⟨rfl, hx⟩ := y
      rw [List.getElem?_map] at hx
      obtain ⟨i, hi, rfl⟩ := Option.map_eq_some_iff.mp hx
      have hi24 := metOf_lt i (List.mem_of_getElem? hi)
      have s15 := s1.trans sa5
      refine ⟨rfl, ?_⟩
      simp only [tSeq, tRet, tRetN, tAsg, tIf, tIfS, tNext, tTest, tB, cx_K, cx_w, cx_nK, cx_nw, tOp, tUn, tVar, tC, tCons, tNil, tTup, tLst, tF, tM1, tCB, tAnd, tOr, tNot, tAndV, tOrV, tNotV, tChain, tFld, tPart, tNoPart, tSl, rU, rI0, rI, rEq, rNe, rIxD, rIxL, rIxT, rLen, rIsi, rLenQ, rTupOf, rIn, rSlL, rNewStrs, rAppend, rCat, gUnl, tDrop, wipe, List.foldl_cons, List.foldl_nil, StX.tMakeR, sFld, tLenSetN, tDictZip, rIndex, rSorted, rSortedT, rSetOfT, tPar, tPar3, tBM, rSum, rAll, rAny, tNever, gName, gTup, gCons, gNil, L2.start, List.map_cons, List.map_nil, List.length_cons, List.length_nil, List.cons_append, List.nil_append, List.set_cons_zero, List.set_cons_succ, List.getElem?_cons_zero, List.getElem?_cons_succ, Option.some.injEq, V.int.injEq, V.str.injEq, V.bl.injEq, V.ref.injEq, V.ty.injEq, List.cons.injEq, exists_and_left, exists_and_right, exists_eq_left, exists_eq_left', exists_eq, exists_eq', and_true, true_and, exists_const, List.replicate, Nat.sub_self, Nat.reduceAdd, Nat.reduceSub, if_true, if_false, Bool.false_eq_true, ite_true, ite_false, reduceIte, tMGet]
      obtain ⟨ad, p1, p2⟩ := a2.same s15
      obtain ⟨ad', q1, q2⟩ := b2.same s15
      refine ⟨_, _, _, s15 _ _ a1, T.cls.2.2.2.2, T.noA.1, _, rfl, D, rfl, _, p1, keys_there T ad (Nat.le_refl _), kKey i, kSq T hi24, _, _, at_key ad hi24, _, _, _, s15 _ _ b1, T.cls.2.2.2.2, T.noA.1, _, rfl, D', rfl, _, q1, keys_there T ad' (Nat.le_refl _), kKey i, kSq T hi24, _, _, at_key ad' hi24, .tuple ((ms i).map PyData.int), .tuple ((ms' i).map PyData.int), .tup (.of (p2 i hi24)) (dpAll_ints _), .tup (.of (q2 i hi24)) (dpAll_ints _), shaped_ints _, shaped_ints _, ?_⟩
      rw [eqv_moves]
      have q := hq _ (Same.refl _)
      rw [List.getD_eq_getElem?_getD, hi] at q
      exact q
    · refine ⟨D1, rfl, (metOf (outSz [] none none)).map (sameM ms ms'), .of ?_, ?_⟩
      · rw [e5, List.length_map, range_mapD 0 (fun i => V.bl (sameM ms ms' i)), List.map_map]
        rfl
      · rw [List.all_map]
        exact k _ (s1.trans sa5)
end
end Sq

set_option Elab.async false
set_option linter.all false
set_option maxRecDepth 100000
set_option maxHeartbeats 4000000
/-! ## The plain law -/
namespace Sq
/-- the images of a cell, ascending -/
def insC (x : Cell) : List Cell → List Cell
  | [] => [x]
  | y :: r => if lexLt x y then x :: y :: r else if x = y then y :: r else y :: insC x r
def imgL (n i j : Int) : List Cell := (eight n i j).foldr insC []
def kCs (i : Nat) : List Cell := imgL (kSize i) (kI i) (kJ i)
instance (n i j : Int) (cs : List Cell) : Decidable (Imgs n i j cs) := by unfold Imgs; infer_instance
theorem kCs_ok : ∀ i, i < 24 → Imgs (kSize i) (kI i) (kJ i) (kCs i) := by decide +kernel
def effK (p i : Nat) : Option (List Int) := effTab (prs.getD p []) (kSize i) (kCs i)
def namK (m i : Nat) : List Int := srcTab m (kSize i) (kCs i)
/-- the named action of a program, as the row of NAMES -/
def nmOf (p : Nat) : Nat := [6, 6, 6, 6, 6, 6, 7, 1, 1, 0, 3, 3, 0, 4, 5, 5, 2, 6].getD p 0
theorem eff_some : ∀ p, p < 18 → ∀ i, i < 24 → (effK p i).isSome = true := by decide +kernel
theorem falls_no : ∀ p, p < 18 → ∀ k, k < 11 → fallsAt (prs.getD p []) ((k : Nat) + 1) = false := by decide +kernel
def sameK (p i : Nat) : Bool := decide (effK p i = some (namK (nmOf p) i))
def badK (p i : Nat) : Bool := match effK p i with
  | none => false
  | some ts => (List.range 8).any fun a => decide (2 ^ a < 2 ^ ts.length) && decide (ts.length = (namK (nmOf p) i).length) && !decide (moveOf ts (2 ^ a) = moveOf (namK (nmOf p) i) (2 ^ a))
theorem or_bad : ∀ p, p < 18 → ∀ i, i < 24 → (sameK p i || badK p i) = true := by decide +kernel
def bitsP (p : Nat) : List Bool := (List.range 11).map fun k => (standing ((k : Nat) + 1)).all (sameK p)
def szP (p : Nat) : List Int × Option Int × Option Int := if p = 4 then ([1], none, none) else if p = 3 ∨ p = 14 ∨ p = 15 then ([1], some 2, none) else ([], some 2, some 1)
theorem agree_sz : ∀ p, p < 18 → (szFew (bitsP p), szE (bitsP p), szO (bitsP p)) = szP p := by decide +kernel
theorem eight_e (n x : Int) : n - 1 - (n - 1 - x) = x := by omega
theorem eight_symm {n r c l m : Int} (h : (r, c) ∈ eight n l m) : (l, m) ∈ eight n r c := by
  unfold eight at h
  simp only [List.mem_cons, List.not_mem_nil, or_false, Prod.mk.injEq] at h
  rcases h with ⟨rfl, rfl⟩ | ⟨rfl, rfl⟩ | ⟨rfl, rfl⟩ | ⟨rfl, rfl⟩ | ⟨rfl, rfl⟩ | ⟨rfl, rfl⟩ | ⟨rfl, rfl⟩ | ⟨rfl, rfl⟩ <;> simp [eight, eight_e]
theorem eight_sub {n r c l m : Int} (h : (r, c) ∈ eight n l m) : ∀ x ∈ eight n r c, x ∈ eight n l m := by
  unfold eight at h
  simp only [List.mem_cons, List.not_mem_nil, or_false, Prod.mk.injEq] at h
  intro x hx
  rcases h with ⟨rfl, rfl⟩ | ⟨rfl, rfl⟩ | ⟨rfl, rfl⟩ | ⟨rfl, rfl⟩ | ⟨rfl, rfl⟩ | ⟨rfl, rfl⟩ | ⟨rfl, rfl⟩ | ⟨rfl, rfl⟩ <;> (simp only [eight, eight_e, List.mem_cons, List.not_mem_nil, or_false] at hx ⊢; rcases hx with hx | hx | hx | hx | hx | hx | hx | hx <;> simp [hx])
theorem imgs_move {n r c l m : Int} {cs : List Cell} (h : (r, c) ∈ eight n l m) (im : Imgs n r c cs) : Imgs n l m cs :=
  ⟨fun x hx => eight_sub h x (im.1 x hx), fun x hx => im.2.1 x (eight_sub (eight_symm h) x hx), im.2.2⟩
theorem perm4 {l m h u a b c d : Int} (hp : [l, m, h, u].Perm [a, b, c, d]) (h1 : l ≤ m) (h2 : m ≤ h) (h3 : h ≤ u) {x y z w : Int} (hq : [x, y, z, w].Perm [a, b, c, d]) (k1 : x ≤ y) (k2 : y ≤ z) (k3 : z ≤ w) : l = x ∧ m = y ∧ h = z ∧ u = w := by
  have e := List.Perm.eq_of_pairwise (le := fun a b : Int => a ≤ b) (fun a b _ _ h k => Int.le_antisymm h k) (l₁ := [l, m, h, u]) (l₂ := [x, y, z, w]) (by simp; omega) (by simp; omega) (hp.trans hq.symm)
  simp only [List.cons.injEq, and_true] at e
  exact e
theorem kind_cases {n r c : Int} {k : Int × Int × Int} (r1 : 0 ≤ r) (r2 : r < n) (c1 : 0 ≤ c) (c2 : c < n) (hk : KindOf n r c k) : ∃ l m : Int, 0 ≤ l ∧ l ≤ m ∧ m ≤ n - 1 - m ∧ (r, c) ∈ eight n l m ∧ k = (if 1 < l then 1 else l, if 2 < m - l then 2 else m - l, if 3 < n - 1 - m - m then 3 else n - 1 - m - m) := by
  obtain ⟨l, m, h, u, hp, h1, h2, h3, rfl⟩ := hk
  have go : ∀ x y : Int, [x, y, n - 1 - y, n - 1 - x].Perm [r, c, n - 1 - r, n - 1 - c] → x ≤ y → y ≤ n - 1 - y → 0 ≤ x → (r, c) ∈ eight n x y → ∃ l' m' : Int, 0 ≤ l' ∧ l' ≤ m' ∧ m' ≤ n - 1 - m' ∧ (r, c) ∈ eight n l' m' ∧ (if 1 < l then 1 else l, if 2 < m - l then 2 else m - l, if 3 < h - m then 3 else h - m) = ((if 1 < l' then 1 else l', if 2 < m' - l' then 2 else m' - l', if 3 < n - 1 - m' - m' then 3 else n - 1 - m' - m') : Int × Int × Int) := by
    intro x y hq k1 k2 k3 k4
    obtain ⟨rfl, rfl, rfl, rfl⟩ := perm4 hp h1 h2 h3 hq k1 k2 (by omega)
    exact ⟨_, _, k3, k1, k2, k4, rfl⟩
  clear hp h1 h2 h3
  by_cases q1 : r ≤ n - 1 - r <;> by_cases q2 : c ≤ n - 1 - c
  · by_cases q3 : r ≤ c
    · exact go r c (by rw [List.perm_iff_count]; intro a; simp only [List.count_cons, List.count_nil]; ac_rfl) q3 q2 r1 (by simp [eight, eight_e])
    · exact go c r (by rw [List.perm_iff_count]; intro a; simp only [List.count_cons, List.count_nil]; ac_rfl) (by omega) q1 c1 (by simp [eight, eight_e])
  · by_cases q3 : r ≤ n - 1 - c
    · exact go r (n - 1 - c) (by rw [List.perm_iff_count]; intro a; simp only [List.count_cons, List.count_nil, eight_e]; ac_rfl) q3 (by omega) r1 (by simp [eight, eight_e])
    · exact go (n - 1 - c) r (by rw [List.perm_iff_count]; intro a; simp only [List.count_cons, List.count_nil, eight_e]; ac_rfl) (by omega) q1 (by omega) (by simp [eight, eight_e])
  · by_cases q3 : n - 1 - r ≤ c
    · exact go (n - 1 - r) c (by rw [List.perm_iff_count]; intro a; simp only [List.count_cons, List.count_nil, eight_e]; ac_rfl) q3 q2 (by omega) (by simp [eight, eight_e])
    · exact go c (n - 1 - r) (by rw [List.perm_iff_count]; intro a; simp only [List.count_cons, List.count_nil, eight_e]; ac_rfl) (by omega) (by omega) c1 (by simp [eight, eight_e])
  · by_cases q3 : n - 1 - r ≤ n - 1 - c
    · exact go (n - 1 - r) (n - 1 - c) (by rw [List.perm_iff_count]; intro a; simp only [List.count_cons, List.count_nil, eight_e]; ac_rfl) q3 (by omega) (by omega) (by simp [eight, eight_e])
    · exact go (n - 1 - c) (n - 1 - r) (by rw [List.perm_iff_count]; intro a; simp only [List.count_cons, List.count_nil, eight_e]; ac_rfl) (by omega) (by omega) (by omega) (by simp [eight, eight_e])
/-! ### from the least size to a size -/
def toF (A B C l m h u x : Int) : Int := if x = A then l else if x = B then m else if x = C then h else u
structure Four (N A B n l m : Int) : Prop where
  a : 0 ≤ B - A
  c : 0 ≤ N - 1 - B - B
  lm : 0 ≤ m - l
  mh : 0 ≤ n - 1 - m - m
  i1 : B = A ↔ m = l
  i2 : N - 1 - B = B ↔ n - 1 - m = m
section
variable {N A B n l m : Int}
abbrev fF (N A B n l m x : Int) : Int := toF A B (N - 1 - B) l m (n - 1 - m) (n - 1 - l) x
abbrev inF (N A B x : Int) : Prop := x = A ∨ x = B ∨ x = N - 1 - B ∨ x = N - 1 - A
theorem fF_val (F : Four N A B n l m) : fF N A B n l m A = l ∧ fF N A B n l m B = m ∧ fF N A B n l m (N - 1 - B) = n - 1 - m ∧ fF N A B n l m (N - 1 - A) = n - 1 - l := by
  obtain ⟨a, c, lm, mh, i1, i2⟩ := F
  unfold fF toF
  refine ⟨?_, ?_, ?_, ?_⟩ <;> repeat' split <;> omega
theorem fF_mono (F : Four N A B n l m) {x y : Int} (hx : inF N A B x) (hy : inF N A B y) (h : x < y) : fF N A B n l m x < fF N A B n l m y := by
  obtain ⟨v1, v2, v3, v4⟩ := fF_val F
  obtain ⟨a, c, lm, mh, i1, i2⟩ := F
  rcases hx with rfl | rfl | rfl | rfl <;> rcases hy with rfl | rfl | rfl | rfl <;> simp only [v1, v2, v3, v4] <;> omega
theorem fF_neg (F : Four N A B n l m) {x : Int} (hx : inF N A B x) : fF N A B n l m (N - 1 - x) = n - 1 - fF N A B n l m x := by
  obtain ⟨v1, v2, v3, v4⟩ := fF_val F
  rcases hx with rfl | rfl | rfl | rfl
  · rw [v4, v1]
  · rw [v3, v2]
  · rw [eight_e, v3, v2, eight_e]
  · rw [eight_e, v4, v1, eight_e]
abbrev fC (N A B n l m : Int) (c : Cell) : Cell := (fF N A B n l m c.1, fF N A B n l m c.2)
theorem eight_in {c : Cell} (h : c ∈ eight N A B) : inF N A B c.1 ∧ inF N A B c.2 := by
  unfold eight at h
  simp only [List.mem_cons, List.not_mem_nil, or_false] at h
  rcases h with rfl | rfl | rfl | rfl | rfl | rfl | rfl | rfl <;> simp [inF]
theorem eight_map (F : Four N A B n l m) : (eight N A B).map (fC N A B n l m) = eight n l m := by
  obtain ⟨v1, v2, v3, v4⟩ := fF_val F
  unfold eight
  simp only [List.map_cons, List.map_nil, fC, v1, v2, v3, v4]
theorem imgs_map (F : Four N A B n l m) {cs : List Cell} (h : Imgs N A B cs) : Imgs n l m (cs.map (fC N A B n l m)) := by
  refine ⟨fun c hc => ?_, fun c hc => ?_, ?_⟩
  · obtain ⟨d, hd, rfl⟩ := List.mem_map.mp hc
    rw [← eight_map F]
    exact List.mem_map_of_mem (h.1 d hd)
  · rw [← eight_map F] at hc
    obtain ⟨d, hd, rfl⟩ := List.mem_map.mp hc
    exact List.mem_map_of_mem (h.2.1 d hd)
  · rw [List.pairwise_map]
    refine List.Pairwise.imp_of_mem (fun {x y} mx my z => ?_) h.2.2
    obtain ⟨x1, x2⟩ := eight_in (h.1 x mx)
    obtain ⟨y1, y2⟩ := eight_in (h.1 y my)
    rcases z with z | ⟨z1, z2⟩
    · exact .inl (fF_mono F x1 y1 z)
    · exact .inr ⟨by show fF _ _ _ _ _ _ _ = fF _ _ _ _ _ _ _; rw [z1], fF_mono F x2 y2 z2⟩
theorem fC_inj (F : Four N A B n l m) {x y : Cell} (hx : x ∈ eight N A B) (hy : y ∈ eight N A B) (h : fC N A B n l m x = fC N A B n l m y) : x = y := by
  obtain ⟨x1, x2⟩ := eight_in hx
  obtain ⟨y1, y2⟩ := eight_in hy
  have one : ∀ {a b : Int}, inF N A B a → inF N A B b → fF N A B n l m a = fF N A B n l m b → a = b := by
    intro a b ha hb e
    rcases Int.lt_trichotomy a b with q | q | q
    · have := fF_mono F ha hb q; omega
    · exact q
    · have := fF_mono F hb ha q; omega
  exact Prod.ext (one x1 y1 (congrArg Prod.fst h)) (one x2 y2 (congrArg Prod.snd h))
theorem srcOf_map (F : Four N A B n l m) (k : Nat) {c : Cell} (hc : c ∈ eight N A B) : srcOf k n (fC N A B n l m c) = fC N A B n l m (srcOf k N c) := by
  obtain ⟨x1, x2⟩ := eight_in hc
  have e1 := fF_neg F x1
  have e2 := fF_neg F x2
  match k with
  | 0 => rfl
  | 1 => rfl
  | 2 => exact Prod.ext e2.symm e1.symm
  | 3 => exact Prod.ext e1.symm rfl
  | 4 => exact Prod.ext rfl e2.symm
  | 5 => exact Prod.ext e1.symm e2.symm
  | 6 => exact Prod.ext e2.symm rfl
  | _ + 7 => exact Prod.ext rfl e1.symm
end
theorem cIdx_map {f : Cell → Cell} {c : Cell} : ∀ {xs : List Cell}, (∀ x ∈ xs, f x = f c → x = c) → cIdx (f c) (xs.map f) = cIdx c xs
  | [], _ => rfl
  | x :: xs, h => by
    rw [List.map_cons, cIdx_cons, cIdx_cons, cIdx_map (xs := xs) fun y hy => h y (List.mem_cons_of_mem _ hy)]
    by_cases e : x = c
    · rw [if_pos e, if_pos (by rw [e])]
    · rw [if_neg e, if_neg fun q => e (h x (List.mem_cons_self ..) q)]
theorem kind_num : ∀ a, a < 2 → ∀ b, b < 3 → ∀ c, c < 4 → kindAt (a * 12 + b * 4 + c) = (((a : Nat) : Int), ((b : Nat) : Int), ((c : Nat) : Int)) := by decide +kernel
theorem kind_idx {a b c : Int} (a1 : 0 ≤ a) (a2 : a < 2) (b1 : 0 ≤ b) (b2 : b < 3) (c1 : 0 ≤ c) (c2 : c < 4) : ∃ i, i < 24 ∧ kindAt i = (a, b, c) := by
  refine ⟨a.toNat * 12 + b.toNat * 4 + c.toNat, by omega, ?_⟩
  rw [kind_num _ (by omega) _ (by omega) _ (by omega), Int.toNat_of_nonneg a1, Int.toNat_of_nonneg b1, Int.toNat_of_nonneg c1]
theorem src_in {m : Nat} {n i j : Int} {c : Cell} (h : c ∈ eight n i j) : srcOf m n c ∈ eight n i j := by
  obtain ⟨a, b⟩ := c
  unfold eight at h
  simp only [List.mem_cons, List.not_mem_nil, or_false, Prod.mk.injEq] at h
  rcases h with ⟨rfl, rfl⟩ | ⟨rfl, rfl⟩ | ⟨rfl, rfl⟩ | ⟨rfl, rfl⟩ | ⟨rfl, rfl⟩ | ⟨rfl, rfl⟩ | ⟨rfl, rfl⟩ | ⟨rfl, rfl⟩ <;> (match m with
  | 0 => simp [srcOf, eight, eight_e]
  | 1 => simp [srcOf, eight, eight_e]
  | 2 => simp [srcOf, eight, eight_e]
  | 3 => simp [srcOf, eight, eight_e]
  | 4 => simp [srcOf, eight, eight_e]
  | 5 => simp [srcOf, eight, eight_e]
  | 6 => simp [srcOf, eight, eight_e]
  | _ + 7 => simp [srcOf, eight, eight_e])
/-- the kind that is found: its number, and where the source of the cell stands -/
theorem found_at {n r c : Int} {k : Int × Int × Int} {cs : List Cell} (r1 : 0 ≤ r) (r2 : r < n) (c1 : 0 ≤ c) (c2 : c < n) (hk : KindOf n r c k) (im : Imgs n r c cs) :
    ∃ i, i < 24 ∧ kindAt i = k ∧ stands (kindAt i) n = true ∧ cs.length = (kCs i).length ∧ cIdx (r, c) cs < cs.length ∧ ∀ m : Nat, ∃ s, s < cs.length ∧ (namK m i).getD (cIdx (r, c) cs) 0 = (startsOf cs.length).getD s 0 ∧ cs[s]? = some (srcOf m n (r, c)) := by
  obtain ⟨l, m, h0, h1, h2, hm, rfl⟩ := kind_cases r1 r2 c1 c2 hk
  obtain ⟨a, ha⟩ : ∃ a : Int, a = if 1 < l then 1 else l := ⟨_, rfl⟩
  obtain ⟨b, hb⟩ : ∃ b : Int, b = if 2 < m - l then 2 else m - l := ⟨_, rfl⟩
  obtain ⟨d, hd⟩ : ∃ d : Int, d = if 3 < n - 1 - m - m then 3 else n - 1 - m - m := ⟨_, rfl⟩
  rw [← ha, ← hb, ← hd]
  have a1 : 0 ≤ a ∧ a < 2 ∧ a ≤ l ∧ (a < 1 → a = l) := by rw [ha]; split <;> omega
  have b1 : 0 ≤ b ∧ b < 3 ∧ (b < 2 → b = m - l) ∧ b ≤ m - l := by rw [hb]; split <;> omega
  have d1 : 0 ≤ d ∧ d < 4 ∧ (d < 3 → d = n - 1 - m - m) ∧ d ≤ n - 1 - m - m := by rw [hd]; split <;> omega
  clear ha hb hd
  obtain ⟨i, hi, ei⟩ := kind_idx a1.1 a1.2.1 b1.1 b1.2.1 d1.1 d1.2.1
  have eN : kSize i = 2 * (a + b) + d + 1 := by unfold kSize; rw [ei]
  have eA : kI i = a := by unfold kI; rw [ei]
  have eB : kJ i = a + b := by unfold kJ; rw [ei]
  have ko := kCs_ok i hi
  rw [eN, eA, eB] at ko
  have F : Four (2 * (a + b) + d + 1) a (a + b) n l m := ⟨by omega, by omega, by omega, by omega, by omega, by omega⟩
  have ecs : cs = (kCs i).map (fC (2 * (a + b) + d + 1) a (a + b) n l m) := (imgs_move hm im).uniq (imgs_map F ko)
  have hst : stands (kindAt i) n = true := by
    rw [ei]
    unfold stands
    dsimp only
    rw [if_neg (by omega)]
    by_cases q : d = 3 ∨ n - (2 * (a + b) + d + 1) = 0
    · rw [if_pos q]
    · rw [if_neg q]
      have hd3 : d < 3 := by omega
      have e2 : n - (2 * (a + b) + d + 1) = 2 * (m - a - b) := by have := d1.2.2.1 hd3; omega
      have e3 : a = 1 ∨ b = 2 := by omega
      rw [Bool.and_eq_true, Bool.or_eq_true, decide_eq_true_eq, decide_eq_true_eq, decide_eq_true_eq]
      refine ⟨?_, e3⟩
      rw [e2, Int.fmod_eq_emod_of_nonneg _ (by decide)]
      omega
  have hm2 := hm
  rw [← eight_map F] at hm2
  obtain ⟨c0, hc0, ec0⟩ := List.mem_map.mp hm2
  have hk0 : c0 ∈ kCs i := ko.2.1 c0 hc0
  have eidx : cIdx (r, c) cs = cIdx c0 (kCs i) := by
    rw [ecs, ← ec0]
    exact cIdx_map fun x hx e => fC_inj F (ko.1 x hx) hc0 e
  have eat := cIdx_at hk0
  have hlen : cs.length = (kCs i).length := by rw [ecs, List.length_map]
  refine ⟨i, hi, ei, hst, hlen, ?_, fun q => ?_⟩
  · rw [eidx, hlen]
    exact (List.getElem?_eq_some_iff.mp eat).1
  · have hsrc : srcOf q (2 * (a + b) + d + 1) c0 ∈ kCs i := ko.2.1 _ (src_in hc0)
    have eat2 := cIdx_at hsrc
    refine ⟨cIdx (srcOf q (2 * (a + b) + d + 1) c0) (kCs i), ?_, ?_, ?_⟩
    · rw [hlen]
      exact (List.getElem?_eq_some_iff.mp eat2).1
    · rw [eidx, hlen]
      unfold namK srcTab
      rw [List.getD_eq_getElem?_getD, List.getElem?_map, eat, Option.map_some, Option.getD_some, eN]
    · rw [ecs, List.getElem?_map, eat2, Option.map_some, ← ec0, srcOf_map F q hc0]
theorem starts_bit : ∀ m, m < 9 → ∀ k, k < m → ∀ c : Nat, c < 2 ^ m → (startsOf m).getD k 0 / 2 ^ c % 2 = (c : Int) / 2 ^ k % 2 := by decide +kernel
theorem bin_bit (b : Nat → Int) (hb : ∀ k, 0 ≤ b k ∧ b k < 2) : ∀ len : Nat, (0 ≤ ((List.range len).map fun k => b k * 2 ^ k).sum ∧ ((List.range len).map fun k => b k * 2 ^ k).sum < 2 ^ len) ∧ ∀ im, im < len → ((List.range len).map fun k => b k * 2 ^ k).sum / 2 ^ im % 2 = b im
  | 0 => ⟨by simp, fun im h => by omega⟩
  | len + 1 => by
    obtain ⟨⟨i1, i2⟩, i3⟩ := bin_bit b hb len
    rw [List.range_succ, List.map_append, List.sum_append, List.map_cons, List.map_nil, List.sum_cons, List.sum_nil, Int.add_zero]
    generalize ((List.range len).map fun k => b k * 2 ^ k).sum = S at i1 i2 i3
    obtain ⟨h1, h2⟩ := hb len
    have hp : (0 : Int) < 2 ^ len := Int.pow_pos (by decide)
    have e : b len = 0 ∨ b len = 1 := by omega
    refine ⟨⟨?_, ?_⟩, fun im him => ?_⟩
    · rcases e with e | e <;> rw [e] <;> omega
    · rw [Int.pow_succ]
      rcases e with e | e <;> rw [e] <;> omega
    · by_cases q : im = len
      · subst q
        rw [Int.add_mul_ediv_right _ _ (Int.ne_of_gt hp), Int.ediv_eq_zero_of_lt i1 i2]
        rcases e with e | e <;> rw [e] <;> rfl
      · rw [← i3 im (by omega)]
        obtain ⟨d, hd⟩ : ∃ d, len = im + (d + 1) := ⟨len - im - 1, by omega⟩
        have hq : (0 : Int) < 2 ^ im := Int.pow_pos (by decide)
        rw [hd, Int.pow_add, Int.pow_succ, show b (im + (d + 1)) * ((2 : Int) ^ im * (2 ^ d * 2)) = (b (im + (d + 1)) * 2 ^ d * 2) * 2 ^ im by ac_rfl, Int.add_mul_ediv_right _ _ (Int.ne_of_gt hq)]
        omega
theorem move_bit {ts : List Int} {c im : Nat} (h : im < ts.length) : moveOf ts c / 2 ^ im % 2 = ts.getD im 0 / 2 ^ c % 2 :=
  (bin_bit (fun k => ts.getD k 0 / 2 ^ c % 2) (fun k => by omega) ts.length).2 im h
theorem moves_at {ts : List Int} {c : Nat} (h : c < 2 ^ ts.length) : (movesOf ts).getD c 0 = moveOf ts c := by
  unfold movesOf
  rw [List.getD_eq_getElem?_getD, List.getElem?_map, List.getElem?_range h]
  rfl
theorem least_plain : ∀ m, m < 9 → ∀ s, s < m → ((List.range (2 ^ m)).filter fun c : Nat => decide ((c : Int) / 2 ^ s % 2 = 1) && (bitsOf c).all fun k => decide (((c - 2 ^ k : Nat) : Int) / 2 ^ s % 2 = 0)) = [2 ^ s] := by decide +kernel
theorem bits_one : ∀ s, s < 8 → bitsOf ((2 ^ s : Nat) : Int) = [s] := by decide +kernel
theorem least_one {ts : List Int} {im s : Nat} (hl : ts.length < 9) (him : im < ts.length) (hs : s < ts.length) (h : ts.getD im 0 = (startsOf ts.length).getD s 0) : leastOf (movesOf ts) im = [2 ^ s] := by
  have hlen : (movesOf ts).length = 2 ^ ts.length := by unfold movesOf; rw [List.length_map, List.length_range]
  have bit : ∀ c : Nat, c < 2 ^ ts.length → (movesOf ts).getD c 0 / 2 ^ im % 2 = (c : Int) / 2 ^ s % 2 := fun c hc => by
    rw [moves_at hc, move_bit him, h, starts_bit _ hl s hs c hc]
  unfold leastOf
  rw [hlen, ← least_plain _ hl s hs]
  refine List.filter_congr fun c hc => ?_
  have hc := List.mem_range.mp hc
  unfold leastB
  rw [bit c hc]
  congr 1
  refine congrArg (fun f => (bitsOf c).all f) (funext fun k => ?_)
  rw [bit (c - 2 ^ k) (Nat.lt_of_le_of_lt (Nat.sub_le ..) hc)]
/-! ### sizes -/
def inSz (p : Nat) (n : Int) : Bool := decide (n ∈ (szP p).1) || goesOn (szP p).2.1 (szP p).2.2 n
theorem same_low : ∀ p, p < 18 → ∀ k, k < 11 → inSz p ((k : Nat) + 1) = true → ∀ i, i < 24 → stands (kindAt i) ((k : Nat) + 1) = true → sameK p i = true := by decide +kernel
theorem stands_low {i : Nat} {n : Int} (hi : i < 24) (hn : 12 ≤ n) (h : stands (kindAt i) n = true) : stands (kindAt i) (10 + n % 2) = true := by
  have hb : ∀ i, i < 24 → 0 ≤ (kindAt i).1 ∧ (kindAt i).1 ≤ 1 ∧ 0 ≤ (kindAt i).2.1 ∧ (kindAt i).2.1 ≤ 2 ∧ 0 ≤ (kindAt i).2.2 ∧ (kindAt i).2.2 ≤ 3 := by decide +kernel
  obtain ⟨b1, b2, b3, b4, b5, b6⟩ := hb i hi
  clear hb hi
  generalize kindAt i = kk at *
  obtain ⟨a, b, c⟩ := kk
  unfold stands at h ⊢
  dsimp only at h b1 b2 b3 b4 b5 b6 ⊢
  rw [if_neg (by omega)] at h ⊢
  by_cases q : c = 3 ∨ 10 + n % 2 - (2 * (a + b) + c + 1) = 0
  · rw [if_pos q]
  · rw [if_neg q]
    rw [if_neg (by omega)] at h
    rw [Bool.and_eq_true, decide_eq_true_eq, Int.fmod_eq_emod_of_nonneg _ (by decide)] at h ⊢
    exact ⟨by omega, h.2⟩
theorem inSz_low {p : Nat} {n : Int} (hp : p < 18) (hn : 12 ≤ n) (h : inSz p n = true) : inSz p (10 + n % 2) = true := by
  have e0 : (10 + n % 2) % 2 = n % 2 := by omega
  unfold inSz goesOn szP at h ⊢
  rw [e0]
  by_cases h4 : p = 4
  · rw [if_pos h4] at h
    simp at h
    omega
  · rw [if_neg h4] at h ⊢
    by_cases h3 : p = 3 ∨ p = 14 ∨ p = 15
    · rw [if_pos h3] at h ⊢
      by_cases hm : n % 2 = 0
      · simp [hm]
      · simp [hm] at h
        omega
    · rw [if_neg h3]
      by_cases hm : n % 2 = 0
      · simp [hm]
      · have : n % 2 = 1 := by omega
        simp [this]
theorem same_all {p i : Nat} {n : Int} (hp : p < 18) (hi : i < 24) (hn : 1 ≤ n) (h : inSz p n = true) (hs : stands (kindAt i) n = true) : sameK p i = true := by
  by_cases q : n ≤ 11
  · have e : n = ((n.toNat - 1 : Nat) : Int) + 1 := by omega
    rw [e] at h hs
    exact same_low p hp _ (by omega) h i hi hs
  · have h2 := inSz_low hp (by omega) h
    have s2 := stands_low hi (by omega) hs
    have e : 10 + n % 2 = (((10 + n % 2).toNat - 1 : Nat) : Int) + 1 := by omega
    rw [e] at h2 s2
    exact same_low p hp _ (by omega) h2 i hi s2
def metK : List Nat := (List.range 24).filter fun i => (List.range 11).any fun k => stands (kindAt i) ((k : Nat) + 1)
theorem met_same : ∀ p, p < 18 → metK.all (sameK p) = decide (szP p = ([], some 2, some 1)) := by decide +kernel
theorem same_iff {p i : Nat} {ts : List Int} (hp : p < 18) (hi : i < 24) (h : effK p i = some ts) : decide (movesOf ts = movesOf (namK (nmOf p) i)) = sameK p i := by
  have q := or_bad p hp i hi
  unfold sameK at q ⊢
  unfold badK at q
  rw [h] at q ⊢
  by_cases e : ts = namK (nmOf p) i
  · rw [e]
    simp
  · rw [decide_eq_false (fun h => e (Option.some.inj h))] at q ⊢
    rw [Bool.false_or] at q
    obtain ⟨a, ha, q⟩ := List.any_eq_true.mp q
    rw [Bool.and_eq_true, Bool.and_eq_true, decide_eq_true_eq, decide_eq_true_eq, Bool.not_eq_true', decide_eq_false_iff_not] at q
    refine decide_eq_false fun w => q.2 ?_
    have w2 : (movesOf ts).getD (2 ^ a) 0 = (movesOf (namK (nmOf p) i)).getD (2 ^ a) 0 := by rw [w]
    rw [moves_at q.1.1, moves_at (by rw [← q.1.2]; exact q.1.1)] at w2
    exact w2
theorem nam_len : ∀ m i, (namK m i).length = (kCs i).length := fun m i => by unfold namK srcTab; rw [List.length_map]
end Sq

set_option Elab.async false
set_option linter.all false
set_option maxRecDepth 100000
set_option maxHeartbeats 4000000
/-! ## Walks: actions made -/
namespace Sq
open PySem PySem.Spec PyProof.Rows L2 He
section
variable {P : Program} {w : World} {K : PySem.W.Frag} {mg : Str → Option Value} {base : Heap}
/-- a new action -/
theorem act_made {H : Hp} {D g : Addr} {ms : Nat → List Int} {few : List Int} {e o : Option Int} {Q : VK} (mv : MovAt P w K H D ms) (hs : SizesAt K H g few e o) (k : ∀ H' a, Same H H' → H a = none → ActAt P w K H' a ms few e o → Q (.ref a) H') (x dx : Addr) (hx : H x = none) (hdx : H dx = none) (ne : dx ≠ x) :
    spActInit K [.ref x, .ref D, .ref g] (upd (upd H dx (.own x)) x (.ins (ga K "Action") dx [])) (fun v H3 => v = .non ∧ Q (.ref x) H3) E0 := by
  refine ⟨x, dx, D, g, rfl, upd_same, rfl, ?_⟩
  rw [upd_upd]
  have s8 : Same H (upd (upd H dx (.own x)) x (.ins (ga K "Action") dx [("moves", .ref D), ("gaps", .ref g)])) := Same.updD (Same.updD (Same.refl _) hdx) hx
  exact k _ x s8 hx ⟨dx, D, g, upd_same, mv.same s8, hs.same s8⟩
theorem cx_P {CX : CXT} {N : List Str} {q : Str} {sc : Scope} {f : Addr} {cd : Value} {A : Around} {outer : List Env} {s : Shared} {H : Hp} {E : XK} : (cxOf CX P w K mg base N q sc f cd A outer s H E).prog = P := rfl
theorem cx_nP {CX : CXT} {N : List Str} {q : Str} {sc : Scope} {f : Addr} {cd : Value} {A : Around} {outer : List Env} {s : Shared} {H : Hp} {E : XK} : (cxOf CX P w K mg base N q sc f cd A outer s H E).nox.prog = P := rfl
theorem movEnts_succ (K : PySem.W.Frag) (ad : Nat → Addr) (t : Addr) (i : Nat) : movEnts K ad i ++ [(kKey i, kiAd K i, Value.ref t)] = movEnts K (fun j => if j = i then t else ad j) (i + 1) := by
  unfold movEnts
  rw [List.range_succ, List.map_append, List.map_cons, List.map_nil]
  dsimp only
  rw [if_pos rfl]
  congr 1
  refine List.map_congr_left fun j hj => ?_
  have := List.mem_range.mp hj
  rw [if_neg (by omega)]
/-- {k: moves for k in KINDS} -/
theorem dcm_kinds (T : TX w K mg) {g : TG} {tk tv : TE} {vs : List Nat} {σ : L2.St} {H1 : Hp} {D : Addr} {Q : Hp → Prop} (hD : H1 D = none) (ms : Nat → List Int)
    (hs : ∀ i H (Qv : V → VK), i < 24 → Same H1 H → (∀ H2 t, Same H H2 → H2 t = some (.tup ((ms i).map V.int)) → Qv (.ref (kiAd K i)) (.ref t) H2) → g (.ref (kiAd K i)) (wipe σ vs) H fun σ2 H2 => wipe σ2 vs = wipe σ vs ∧ tk σ2 H2 fun y H4 => tv σ2 H4 (Qv y))
    (hd : ∀ H, Same H1 H → MovAt P w K H D ms → Q H) :
    ∃ W : Nat → Nat → Hp → Prop, (∃ m, W 0 m (upd H1 D (MapO P w D []))) ∧ ∀ i m H, W i m H →
      ((Itt K (ga K "KINDS")).stop i H ∧ Q H) ∨ ((Itt K (ga K "KINDS")).go i H ∧ ∃ Nx : Hp → Prop, (∀ H', Nx H' → ∃ m', m' < m ∧ W (i + 1) m' H') ∧ ∀ x H', (Itt K (ga K "KINDS")).yld i H x H' → g x (wipe σ vs) H' fun σ2 H2 => wipe σ2 vs = wipe σ vs ∧
        tk σ2 H2 fun y H4 => tv σ2 H4 fun z H5 => ∃ b t xs k, y = .ref b ∧ z = .ref t ∧ H5 D = some (MapO P w D xs) ∧ KeysThere K H5 xs ∧ SqT K H5 b (k.map kV) ∧ k ∉ xs.map (·.1) ∧ xs.length ≤ sizeLine ∧ Nx (upd H5 D (MapO P w D (xs ++ [(k, b, .ref t)])))) := by
  have wk := walk_kinds T
  obtain ⟨Pv, hPv⟩ : ∃ Pv : Nat → Hp → Prop, Pv = fun i H => Same H1 H ∧ ∃ ad : Nat → Addr, H D = some (MapO P w D (movEnts K ad i)) ∧ ∀ j, j < i → H (ad j) = some (.tup ((ms j).map V.int)) := ⟨_, rfl⟩
  refine ⟨fun i m H => m = 24 - i ∧ i ≤ 24 ∧ Pv i H, ⟨24, rfl, Nat.zero_le _, ?_⟩, ?_⟩
  · rw [hPv]
    exact ⟨Same.upd (Same.refl H1) hD, fun _ => 0, upd_same, fun j hj => by omega⟩
  · rintro i m H ⟨rfl, hi, p⟩
    by_cases hlt : i < 24
    · refine .inr ⟨wk.goes i H hlt trivial, Pv (i + 1), fun H' p' => ⟨24 - (i + 1), by omega, rfl, hlt, p'⟩, fun x H' y => ?_⟩
      obtain ⟨rfl, rfl⟩ := wk.yields i H x H' hlt trivial y
      rw [hPv] at p
      obtain ⟨sa, ad, e, hm⟩ := p
      refine hs i H' _ hlt sa fun H2 t s2 et => ?_
      have e2 := s2 _ _ e
      have ne : ∀ b xs, H2 b = some (.tup xs) → b ≠ D := fun b xs h q => by rw [q, e2] at h; cases h
      refine ⟨kiAd K i, t, movEnts K ad i, kKey i, rfl, rfl, e2, keys_there T ad (by omega), kSq T hlt, by rw [movKeys]; exact kKey_new hlt, by unfold movEnts; rw [List.length_map, List.length_range, sizeLine_eq]; omega, ?_⟩
      rw [hPv]
      refine ⟨Same.updD (sa.trans s2) hD, fun j => if j = i then t else ad j, by rw [upd_same, movEnts_succ], fun j hj => ?_⟩
      by_cases q : j = i
      · subst q
        dsimp only
        rw [if_pos rfl, upd_ne (ne _ _ et)]
        exact et
      · dsimp only
        have h := s2 _ _ (hm j (by omega))
        rw [if_neg q, upd_ne (ne _ _ h)]
        exact h
    · have e : i = 24 := by omega
      subst e
      rw [hPv] at p
      obtain ⟨sa, ad, e, hm⟩ := p
      exact .inl ⟨wk.stops H trivial, hd H sa ⟨ad, e, hm⟩⟩
def spActionOf (P : Program) (w : World) (K : PySem.W.Frag) : Sp := fun vs H Q _ => ∃ (pa : Addr) (ps : List (Addr × Ns)) (ts : Nat → List Int) (bs : List Bool), vs = [.ref (ga K "Action"), .ref pa] ∧ ProgAt K H pa ps ∧ (∀ p ∈ ps, NsOk p.2) ∧
  (∀ i, i < 24 → effTab (ps.map (·.2)) (kSize i) (kCs i) = some (ts i)) ∧ bs = ((List.range 11).map fun k => fallsAt (ps.map (·.2)) (((k : Nat) : Int) + 1)) ∧ ∀ H' a, Same H H' → H a = none → ActAt P w K H' a (fun i => movesOf (ts i)) (szFew bs) (szE bs) (szO bs) → Q (.ref a) H'
abbrev N_Action_of : List Str := ["cls", "program", "moves", "kind", "size"]
theorem sc_Action_of : FnScope N_Action_of ["cls", "program"] (defScope (inClass (top 99) 1)) := ⟨rfl, rfl, rfl, by decide +kernel, rfl, by decide +kernel, by decide +kernel⟩
theorem F_Action_of (T : TX w K mg) : FnR P w K mg base CX0 7 (He5.wf K (ga K "Action") "classmethod" "of") (spActionOf P w K) := by
  obtain ⟨fd, F⟩ := T.fi 58
  have nd := sc_Action_of.nd
  have F_Action_init := F_Action_init (P := P) (base := base) T
  have F_check_program := F_check_program (P := P) (base := base) T
  have F_effect_on := F_effect_on (P := P) (base := base) T
  have F_least_size := F_least_size (P := P) (base := base) T
  have F_corner := F_corner (P := P) (base := base) T
  have F_falls_at := F_falls_at (P := P) (base := base) T
  have F_sizes_where := F_sizes_where (P := P) (base := base) T
  refine raw0 F sc_Action_of (fun vs H Q E h => ?_) (fun _ _ _ _ _ _ us hl => match us, hl with | [_, _], _ => rfl) (fun cdv A outer s H vs Q E hr h => ?_)
  · obtain ⟨pa, ps, ts, bs, rfl, hp, ok, hts, hbs, k⟩ := h
    rfl
  · obtain ⟨pa, ps, ts, bs, rfl, hp, ok, hts, hbs, k⟩ := h
    refine ⟨_, (pss_cons (ps_expr (pe_f F_check_program hr (pa_cons (pv 1) pa_nil)))
    (pss_cons (ps_setDcM (i := 2) (own := [("kind", 3)]) (g := gName 3) (by rfl) (hu0_of hr) nd rfl rfl (swd_true rfl rfl rfl (by decide +kernel)) (pi_tup (pe_K rfl (T.g "KINDS"))) (blkOk_by (own := [("kind", 3)]) (N := N_Action_of) (sc := (defScope (inClass (top 99) 1))) (by decide +kernel)) (fun _ _ _ _ _ => (pg_name (i := 3) nd rfl (Or.inl rfl))) (fun _ _ _ _ _ => (pv 3)) (fun _ _ _ _ _ => (pe_f F_effect_on hr (pa_cons (pv 1) (pa_cons (pe_f F_least_size hr (pa_cons (pv 3) pa_nil)) (pa_cons (pe_f F_corner hr (pa_cons (pv 3) pa_nil)) pa_nil))))))
    (pss_one (ps_ret (pe_makeL (i := 0) T.mkA F_Action_init (hr.mono (by decide)) rfl (Or.inl rfl) pass0 (pa_cons (pv 2) (pa_cons (pe_f F_sizes_where hr (pa_cons (pe_lc (own := [("size", 4)]) (g := gName 4) (tt := tYes) (by rfl) nd (pi_range2 (by rfl) (T.z "range") (pa_cons (pe_int) (pa_cons (pe_op op_add (pe_gi rfl T.deciding) (pe_int)) pa_nil))) (blkOk_by (own := [("size", 4)]) (N := N_Action_of) (sc := (defScope (inClass (top 99) 1))) (by decide +kernel)) (fun _ _ _ _ _ => (pg_name (i := 4) nd rfl (Or.inl rfl))) (fun _ _ _ _ _ => pts_nil) (fun _ _ _ _ _ => (pe_f F_falls_at hr (pa_cons (pv 1) (pa_cons (pv 4) pa_nil))))) pa_nil)) pa_nil))))))), ?_⟩
    refine seqG fun R hR => ?_
    simp only [tSeq, tRet, tRetN, tAsg, tIf, tIfS, tNext, tTest, tB, cx_K, cx_w, cx_nK, cx_nw, tOp, tUn, tVar, tC, tCons, tNil, tTup, tLst, tF, tM1, tCB, tAnd, tOr, tNot, tAndV, tOrV, tNotV, tChain, tFld, tPart, tNoPart, tSl, rU, rI0, rI, rEq, rNe, rIxD, rIxL, rIxT, rLen, rIsi, rLenQ, rTupOf, rIn, rSlL, rNewStrs, rAppend, rCat, gUnl, tDrop, wipe, List.foldl_cons, List.foldl_nil, StX.tMakeR, sFld, tLenSetN, tDictZip, rIndex, rSorted, rSortedT, rSetOfT, tPar, tPar3, tBM, rSum, rAll, rAny, tNever, gName, gTup, gCons, gNil, L2.start, List.map_cons, List.map_nil, List.length_cons, List.length_nil, List.cons_append, List.nil_append, List.set_cons_zero, List.set_cons_succ, List.getElem?_cons_zero, List.getElem?_cons_succ, Option.some.injEq, V.int.injEq, V.str.injEq, V.bl.injEq, V.ref.injEq, V.ty.injEq, List.cons.injEq, exists_and_left, exists_and_right, exists_eq_left, exists_eq_left', exists_eq, exists_eq', and_true, true_and, exists_const, List.replicate, Nat.sub_self, Nat.reduceAdd, Nat.reduceSub, if_true, if_false, Bool.false_eq_true, ite_true, ite_false, reduceIte]
    refine ⟨pa, ps, rfl, hp, ?_⟩
    rw [hR]; clear hR R
    refine seqG fun R hR => ?_
    simp only [tSeq, tRet, tRetN, tAsg, tIf, tIfS, tNext, tTest, tB, cx_K, cx_w, cx_nK, cx_nw, tOp, tUn, tVar, tC, tCons, tNil, tTup, tLst, tF, tM1, tCB, tAnd, tOr, tNot, tAndV, tOrV, tNotV, tChain, tFld, tPart, tNoPart, tSl, rU, rI0, rI, rEq, rNe, rIxD, rIxL, rIxT, rLen, rIsi, rLenQ, rTupOf, rIn, rSlL, rNewStrs, rAppend, rCat, gUnl, tDrop, wipe, List.foldl_cons, List.foldl_nil, StX.tMakeR, sFld, tLenSetN, tDictZip, rIndex, rSorted, rSortedT, rSetOfT, tPar, tPar3, tBM, rSum, rAll, rAny, tNever, gName, gTup, gCons, gNil, L2.start, List.map_cons, List.map_nil, List.length_cons, List.length_nil, List.cons_append, List.nil_append, List.set_cons_zero, List.set_cons_succ, List.getElem?_cons_zero, List.getElem?_cons_succ, Option.some.injEq, V.int.injEq, V.str.injEq, V.bl.injEq, V.ref.injEq, V.ty.injEq, List.cons.injEq, exists_and_left, exists_and_right, exists_eq_left, exists_eq_left', exists_eq, exists_eq', and_true, true_and, exists_const, List.replicate, Nat.sub_self, Nat.reduceAdd, Nat.reduceSub, if_true, if_false, Bool.false_eq_true, ite_true, ite_false, reduceIte, cx_P, cx_nP]
    refine ⟨_, rfl, ⟨_, T.kindsT⟩, fun D hD => dcm_kinds T hD (fun i => movesOf (ts i)) (fun i H5 Qv hi sa5 hq => ?_) (fun H5 sa5 mv => ?_)⟩
    · refine ⟨rfl, ?_⟩
      simp only [tSeq, tRet, tRetN, tAsg, tIf, tIfS, tNext, tTest, tB, cx_K, cx_w, cx_nK, cx_nw, tOp, tUn, tVar, tC, tCons, tNil, tTup, tLst, tF, tM1, tCB, tAnd, tOr, tNot, tAndV, tOrV, tNotV, tChain, tFld, tPart, tNoPart, tSl, rU, rI0, rI, rEq, rNe, rIxD, rIxL, rIxT, rLen, rIsi, rLenQ, rTupOf, rIn, rSlL, rNewStrs, rAppend, rCat, gUnl, tDrop, wipe, List.foldl_cons, List.foldl_nil, StX.tMakeR, sFld, tLenSetN, tDictZip, rIndex, rSorted, rSortedT, rSetOfT, tPar, tPar3, tBM, rSum, rAll, rAny, tNever, gName, gTup, gCons, gNil, L2.start, List.map_cons, List.map_nil, List.length_cons, List.length_nil, List.cons_append, List.nil_append, List.set_cons_zero, List.set_cons_succ, List.getElem?_cons_zero, List.getElem?_cons_succ, Option.some.injEq, V.int.injEq, V.str.injEq, V.bl.injEq, V.ref.injEq, V.ty.injEq, List.cons.injEq, exists_and_left, exists_and_right, exists_eq_left, exists_eq_left', exists_eq, exists_eq', and_true, true_and, exists_const, List.replicate, Nat.sub_self, Nat.reduceAdd, Nat.reduceSub, if_true, if_false, Bool.false_eq_true, ite_true, ite_false, reduceIte]
      obtain ⟨b1, b2, b3, b4⟩ := kind_in i hi
      refine ⟨_, _, _, _, rfl, T.kd hi, _, _, _, _, rfl, T.kd hi, fun H6 tc s6 htc ec => ?_⟩
      refine ⟨pa, tc, kSize i, kI i, kJ i, ps, rfl, hp.same (sa5.trans s6), ok, ec, b1, b2, b3, b4, fun cs im => ⟨ts i, ?_⟩, fun H7 t cs ts' s7 ht im e et => ?_⟩
      · rw [im.uniq (kCs_ok i hi)]
        exact hts i hi
      · rw [im.uniq (kCs_ok i hi), hts i hi] at e
        cases e
        exact hq H7 t (s6.trans s7) et
    · rw [hR]; clear hR R
      simp only [tSeq, tRet, tRetN, tAsg, tIf, tIfS, tNext, tTest, tB, cx_K, cx_w, cx_nK, cx_nw, tOp, tUn, tVar, tC, tCons, tNil, tTup, tLst, tF, tM1, tCB, tAnd, tOr, tNot, tAndV, tOrV, tNotV, tChain, tFld, tPart, tNoPart, tSl, rU, rI0, rI, rEq, rNe, rIxD, rIxL, rIxT, rLen, rIsi, rLenQ, rTupOf, rIn, rSlL, rNewStrs, rAppend, rCat, gUnl, tDrop, wipe, List.foldl_cons, List.foldl_nil, StX.tMakeR, sFld, tLenSetN, tDictZip, rIndex, rSorted, rSortedT, rSetOfT, tPar, tPar3, tBM, rSum, rAll, rAny, tNever, gName, gTup, gCons, gNil, L2.start, List.map_cons, List.map_nil, List.length_cons, List.length_nil, List.cons_append, List.nil_append, List.set_cons_zero, List.set_cons_succ, List.getElem?_cons_zero, List.getElem?_cons_succ, Option.some.injEq, V.int.injEq, V.str.injEq, V.bl.injEq, V.ref.injEq, V.ty.injEq, List.cons.injEq, exists_and_left, exists_and_right, exists_eq_left, exists_eq_left', exists_eq, exists_eq', and_true, true_and, exists_const, List.replicate, Nat.sub_self, Nat.reduceAdd, Nat.reduceSub, if_true, if_false, Bool.false_eq_true, ite_true, ite_false, reduceIte, tMakeL]
      refine ⟨11, 1, rfl, rfl, 1, 11 + 1, rfl, ⟨by decide, by decide, by decide, by decide⟩, fun D2 hD2 => lcm (walk_range (lo := 1) (n := 11)) (by rw [sizeLine_eq]; decide) hD2 (fun j => V.bl (fallsAt (ps.map (·.2)) (((j : Nat) : Int) + 1))) (fun _ _ => trivial) (fun j x H6 H' Q6 hj sa6 y hq => ?_) (fun H6 sa6 e6 => ?_)⟩
      · obtain ⟨rfl, rfl⟩ := y
        refine ⟨rfl, ?_⟩
        simp only [tSeq, tRet, tRetN, tAsg, tIf, tIfS, tNext, tTest, tB, cx_K, cx_w, cx_nK, cx_nw, tOp, tUn, tVar, tC, tCons, tNil, tTup, tLst, tF, tM1, tCB, tAnd, tOr, tNot, tAndV, tOrV, tNotV, tChain, tFld, tPart, tNoPart, tSl, rU, rI0, rI, rEq, rNe, rIxD, rIxL, rIxT, rLen, rIsi, rLenQ, rTupOf, rIn, rSlL, rNewStrs, rAppend, rCat, gUnl, tDrop, wipe, List.foldl_cons, List.foldl_nil, StX.tMakeR, sFld, tLenSetN, tDictZip, rIndex, rSorted, rSortedT, rSetOfT, tPar, tPar3, tBM, rSum, rAll, rAny, tNever, gName, gTup, gCons, gNil, L2.start, List.map_cons, List.map_nil, List.length_cons, List.length_nil, List.cons_append, List.nil_append, List.set_cons_zero, List.set_cons_succ, List.getElem?_cons_zero, List.getElem?_cons_succ, Option.some.injEq, V.int.injEq, V.str.injEq, V.bl.injEq, V.ref.injEq, V.ty.injEq, List.cons.injEq, exists_and_left, exists_and_right, exists_eq_left, exists_eq_left', exists_eq, exists_eq', and_true, true_and, exists_const, List.replicate, Nat.sub_self, Nat.reduceAdd, Nat.reduceSub, if_true, if_false, Bool.false_eq_true, ite_true, ite_false, reduceIte]
        exact ⟨pa, 1 + (j : Nat), ps, rfl, hp.same (sa5.trans sa6), ok, by omega, by omega, fun H7 s7 => by rw [Int.add_comm]; exact hq _ s7⟩
      · refine ⟨D2, bs, rfl, by rw [hbs]; rfl, .of (by rw [e6, hbs, List.map_map]; rfl), fun H7 g s7 hg hs x dx hx hdx ne => ?_⟩
        have st := sa5.trans (sa6.trans s7)
        exact act_made (mv.same (sa6.trans s7)) hs (fun H8 a s8 ha h8 => k H8 a (st.trans s8) (Same.free st ha) h8) x dx hx hdx ne
theorem sizes_madeA {H : Hp} {f : Addr} {xs : List Int} {e o : Option Int} {m : Int} {Q : Addr → Hp → Prop} (hf : SqT K H f (xs.map V.int)) (ok : okListed xs m) (hlen : xs.length ≤ 1000) (oe : okTail e 0 m) (oo : okTail o 1 m)
    (k : ∀ H' a, Same H H' → H a = none → SizesAt K H' a (fewOf xs (tailOf xs e) (tailOf xs o)) (tailOf xs e) (tailOf xs o) → Q a H') (x dx : Addr) (hx : H x = none) (hdx : H dx = none) (ne : dx ≠ x) :
    spSizesInit K [.ref x, .ref f, ovV e, ovV o, .int m] (upd (upd H dx (.own x)) x (.ins (ga K "Sizes") dx [])) (fun v H3 => v = .non ∧ Q x H3) E0 := by
  have s1 : Same H (upd (upd H dx (.own x)) x (.ins (ga K "Sizes") dx [])) := Same.updD (Same.updD (Same.refl H) hdx) hx
  refine ⟨x, dx, f, xs, e, o, m, rfl, Same.tup s1 hf, ok, hlen, oe, oo, upd_same, fun H' sx hs => ⟨rfl, k H' x (fun b u h => ?_) hx hs⟩⟩
  have nb : b ≠ x := fun q => by rw [q, hx] at h; cases h
  exact sx _ _ nb (s1 _ _ h)
/-- Sizes() -/
theorem sizes_none (T : TX w K mg) {H : Hp} {Q : Addr → Hp → Prop} (k : ∀ H' a, Same H H' → H a = none → SizesAt K H' a [] none none → Q a H') (x dx : Addr) (hx : H x = none) (hdx : H dx = none) (ne : dx ≠ x) :
    spSizesInit K [.ref x, .ref (dflAd K), .non, .non, .int 200] (upd (upd H dx (.own x)) x (.ins (ga K "Sizes") dx [])) (fun v H3 => v = .non ∧ Q x H3) E0 :=
  sizes_madeA (xs := []) (e := none) (o := none) (tupA_ok T.e.dfl H) (fun i hi => absurd hi (Nat.not_lt_zero _)) (Nat.zero_le _) (fun v hv => by cases hv) (fun v hv => by cases hv) k x dx hx hdx ne
theorem nm_in : ∀ m, m < 8 → inV (.str (nmL.getD m "")) (nmL.map V.str) = true := by decide +kernel
theorem nm_flat : (nmL.map V.str).all flatV = true := by decide +kernel
def spNamed (P : Program) (w : World) (K : PySem.W.Frag) : Sp := fun vs H Q _ => ∃ (m : Nat), vs = [.ref (ga K "Action"), .str (nmL.getD m "")] ∧ m < 8 ∧ ∀ H' a, Same H H' → H a = none → ActAt P w K H' a (fun i => movesOf (namK m i)) [] none none → Q (.ref a) H'
abbrev N_Action_named : List Str := ["cls", "name", "kind"]
theorem sc_Action_named : FnScope N_Action_named ["cls", "name"] (defScope (inClass (top 99) 2)) := ⟨rfl, rfl, rfl, by decide +kernel, rfl, by decide +kernel, by decide +kernel⟩
theorem F_Action_named (T : TX w K mg) : FnR P w K mg base CX0 7 (He5.wf K (ga K "Action") "classmethod" "named") (spNamed P w K) := by
  obtain ⟨fd, F⟩ := T.fi 59
  have nd := sc_Action_named.nd
  have F_Action_init := F_Action_init (P := P) (base := base) T
  have F_named_moves := F_named_moves (P := P) (base := base) T
  obtain ⟨fdS, g3, g2, g1, d4, d3, SF⟩ := SF (P := P) (base := base) T
  refine raw0 F sc_Action_named (fun vs H Q E h => ?_) (fun _ _ _ _ _ _ us hl => match us, hl with | [_, _], _ => rfl) (fun cdv A outer s H vs Q E hr h => ?_)
  · obtain ⟨m, rfl, hm, k⟩ := h
    rfl
  · obtain ⟨m, rfl, hm, k⟩ := h
    refine ⟨_, (pss_cons (ps_if (PW.pt (pw_or (pt_not (pt_val (pe_callB call_isi (by rfl) (T.z "isinstance") (by decide +kernel) (pa_cons (pv 1) (pa_cons (pe_ty (n := "str") (by rfl) (T.z "str") (by decide +kernel)) pa_nil))))) (pw_or1 (pt_cmpR op_notIn_seq (pv 1) (pe_K rfl (T.g "NAMES")) (by rfl))))) (pss_one (ps_never)) pss_nil)
    (pss_one (ps_ret (pe_makeL (i := 0) T.mkA F_Action_init (hr.mono (by decide)) rfl (Or.inl rfl) pass0 (pa_cons (pe_dcM (own := [("kind", 2)]) (g := gName 2) (by rfl) (hu0_of hr) nd (pi_tup (pe_K rfl (T.g "KINDS"))) (blkOk_by (own := [("kind", 2)]) (N := N_Action_named) (sc := (defScope (inClass (top 99) 2))) (by decide +kernel)) (fun _ _ _ _ _ => (pg_name (i := 2) nd rfl (Or.inl rfl))) (fun _ _ _ _ _ => (pv 2)) (fun _ _ _ _ _ => (pe_f F_named_moves hr (pa_cons (pv 1) (pa_cons (pv 2) pa_nil))))) (pa_cons (pe_make0 T.mkS SF.ok (hr.mono (by decide)) rfl (T.g "Sizes") SF.b4.2 SF.b4.1 pass0) pa_nil)))))), ?_⟩
    refine seqG fun R hR => ?_
    simp only [tSeq, tRet, tRetN, tAsg, tIf, tIfS, tNext, tTest, tB, cx_K, cx_w, cx_nK, cx_nw, tOp, tUn, tVar, tC, tCons, tNil, tTup, tLst, tF, tM1, tCB, tAnd, tOr, tNot, tAndV, tOrV, tNotV, tChain, tFld, tPart, tNoPart, tSl, rU, rI0, rI, rEq, rNe, rIxD, rIxL, rIxT, rLen, rIsi, rLenQ, rTupOf, rIn, rSlL, rNewStrs, rAppend, rCat, gUnl, tDrop, wipe, List.foldl_cons, List.foldl_nil, StX.tMakeR, sFld, tLenSetN, tDictZip, rIndex, rSorted, rSortedT, rSetOfT, tPar, tPar3, tBM, rSum, rAll, rAny, tNever, gName, gTup, gCons, gNil, L2.start, List.map_cons, List.map_nil, List.length_cons, List.length_nil, List.cons_append, List.nil_append, List.set_cons_zero, List.set_cons_succ, List.getElem?_cons_zero, List.getElem?_cons_succ, Option.some.injEq, V.int.injEq, V.str.injEq, V.bl.injEq, V.ref.injEq, V.ty.injEq, List.cons.injEq, exists_and_left, exists_and_right, exists_eq_left, exists_eq_left', exists_eq, exists_eq', and_true, true_and, exists_const, List.replicate, Nat.sub_self, Nat.reduceAdd, Nat.reduceSub, if_true, if_false, Bool.false_eq_true, ite_true, ite_false, reduceIte]
    refine ⟨_, _, ⟨rfl, rfl⟩, _, _, .ty _, .base (.str _), _, k_ss, iteF ⟨_, .inr (tupA_ok T.e.names H), rfl, nm_flat, ?_⟩⟩
    rw [nm_in m hm]
    refine iteF ?_
    rw [hR]; clear hR R
    simp only [tSeq, tRet, tRetN, tAsg, tIf, tIfS, tNext, tTest, tB, cx_K, cx_w, cx_nK, cx_nw, tOp, tUn, tVar, tC, tCons, tNil, tTup, tLst, tF, tM1, tCB, tAnd, tOr, tNot, tAndV, tOrV, tNotV, tChain, tFld, tPart, tNoPart, tSl, rU, rI0, rI, rEq, rNe, rIxD, rIxL, rIxT, rLen, rIsi, rLenQ, rTupOf, rIn, rSlL, rNewStrs, rAppend, rCat, gUnl, tDrop, wipe, List.foldl_cons, List.foldl_nil, StX.tMakeR, sFld, tLenSetN, tDictZip, rIndex, rSorted, rSortedT, rSetOfT, tPar, tPar3, tBM, rSum, rAll, rAny, tNever, gName, gTup, gCons, gNil, L2.start, List.map_cons, List.map_nil, List.length_cons, List.length_nil, List.cons_append, List.nil_append, List.set_cons_zero, List.set_cons_succ, List.getElem?_cons_zero, List.getElem?_cons_succ, Option.some.injEq, V.int.injEq, V.str.injEq, V.bl.injEq, V.ref.injEq, V.ty.injEq, List.cons.injEq, exists_and_left, exists_and_right, exists_eq_left, exists_eq_left', exists_eq, exists_eq', and_true, true_and, exists_const, List.replicate, Nat.sub_self, Nat.reduceAdd, Nat.reduceSub, if_true, if_false, Bool.false_eq_true, ite_true, ite_false, reduceIte, tMakeL, cx_P, cx_nP]
    refine ⟨_, rfl, ⟨_, T.kindsT⟩, fun D hD => dcm_kinds T hD (fun i => movesOf (namK m i)) (fun i H5 Qv hi sa5 hq => ?_) (fun H5 sa5 mv => ?_)⟩
    · refine ⟨rfl, ?_⟩
      simp only [tSeq, tRet, tRetN, tAsg, tIf, tIfS, tNext, tTest, tB, cx_K, cx_w, cx_nK, cx_nw, tOp, tUn, tVar, tC, tCons, tNil, tTup, tLst, tF, tM1, tCB, tAnd, tOr, tNot, tAndV, tOrV, tNotV, tChain, tFld, tPart, tNoPart, tSl, rU, rI0, rI, rEq, rNe, rIxD, rIxL, rIxT, rLen, rIsi, rLenQ, rTupOf, rIn, rSlL, rNewStrs, rAppend, rCat, gUnl, tDrop, wipe, List.foldl_cons, List.foldl_nil, StX.tMakeR, sFld, tLenSetN, tDictZip, rIndex, rSorted, rSortedT, rSetOfT, tPar, tPar3, tBM, rSum, rAll, rAny, tNever, gName, gTup, gCons, gNil, L2.start, List.map_cons, List.map_nil, List.length_cons, List.length_nil, List.cons_append, List.nil_append, List.set_cons_zero, List.set_cons_succ, List.getElem?_cons_zero, List.getElem?_cons_succ, Option.some.injEq, V.int.injEq, V.str.injEq, V.bl.injEq, V.ref.injEq, V.ty.injEq, List.cons.injEq, exists_and_left, exists_and_right, exists_eq_left, exists_eq_left', exists_eq, exists_eq', and_true, true_and, exists_const, List.replicate, Nat.sub_self, Nat.reduceAdd, Nat.reduceSub, if_true, if_false, Bool.false_eq_true, ite_true, ite_false, reduceIte]
      refine ⟨m, i, rfl, hm, hi, fun H6 t cs s6 ht im e6 => hq H6 t s6 ?_⟩
      rw [im.uniq (kCs_ok i hi)] at e6
      exact e6
    · simp only [tSeq, tRet, tRetN, tAsg, tIf, tIfS, tNext, tTest, tB, cx_K, cx_w, cx_nK, cx_nw, tOp, tUn, tVar, tC, tCons, tNil, tTup, tLst, tF, tM1, tCB, tAnd, tOr, tNot, tAndV, tOrV, tNotV, tChain, tFld, tPart, tNoPart, tSl, rU, rI0, rI, rEq, rNe, rIxD, rIxL, rIxT, rLen, rIsi, rLenQ, rTupOf, rIn, rSlL, rNewStrs, rAppend, rCat, gUnl, tDrop, wipe, List.foldl_cons, List.foldl_nil, StX.tMakeR, sFld, tLenSetN, tDictZip, rIndex, rSorted, rSortedT, rSetOfT, tPar, tPar3, tBM, rSum, rAll, rAny, tNever, gName, gTup, gCons, gNil, L2.start, List.map_cons, List.map_nil, List.length_cons, List.length_nil, List.cons_append, List.nil_append, List.set_cons_zero, List.set_cons_succ, List.getElem?_cons_zero, List.getElem?_cons_succ, Option.some.injEq, V.int.injEq, V.str.injEq, V.bl.injEq, V.ref.injEq, V.ty.injEq, List.cons.injEq, exists_and_left, exists_and_right, exists_eq_left, exists_eq_left', exists_eq, exists_eq', and_true, true_and, exists_const, List.replicate, Nat.sub_self, Nat.reduceAdd, Nat.reduceSub, if_true, if_false, Bool.false_eq_true, ite_true, ite_false, reduceIte, tMake]
      exact sizes_none T fun H6 g s6 hg hs x dx hx hdx ne => act_made (mv.same s6) hs (fun H8 a s8 ha h8 => k H8 a (sa5.trans (s6.trans s8)) (Same.free (sa5.trans s6) ha) h8) x dx hx hdx ne
end
end Sq

set_option Elab.async false
set_option linter.all false
set_option maxRecDepth 100000
set_option maxHeartbeats 4000000
/-! ## Walks: what an action tells -/
namespace Sq
open PySem PySem.Spec PyProof.Rows L2 He
section
variable {P : Program} {w : World} {K : PySem.W.Frag} {mg : Str → Option Value} {base : Heap}
theorem TX.propF (T : TX w K mg) : PropOf K (ga K "Action") "falls" (ma K (ga K "Action") "falls") (He5.wf K (ga K "Action") "property" "falls") := by
  have h := T.e.prop
  unfold propB at h
  obtain ⟨h1, h⟩ := ba h
  obtain ⟨h2, h⟩ := ba h
  obtain ⟨h3, h4⟩ := ba h
  refine ⟨eqO_ok h1, eqO_ok h2, of_decide_eq_true h3, ?_⟩
  unfold He5.wf
  split at h4
  · rename_i f r e
    exact ⟨r, by rw [e]⟩
  · cases h4
abbrev N_Action_falls : List Str := ["self"]
theorem sc_Action_falls : FnScope N_Action_falls ["self"] (defScope (inClass (top 99) 3)) := ⟨rfl, rfl, rfl, by decide +kernel, rfl, by decide +kernel, by decide +kernel⟩
theorem F_Action_falls (T : TX w K mg) : ∃ fd, FnOk P w K mg base CX0 1 (He5.wf K (ga K "Action") "property" "falls") fd ["self"] (spFalls K) ∧ Binds K fd ["self"] [] := by
  obtain ⟨fd, F⟩ := T.fi 60
  have nd := sc_Action_falls.nd
  refine ⟨fd, F.ok sc_Action_falls (fun vs H Q E h => ?_) (fun cdv A outer s H vs Q E hr h => ?_), F.bindsN (fun _ _ _ _ _ _ us hl => match us, hl with | [_], _ => rfl)⟩
  · obtain ⟨_, _, _, _, rfl, _⟩ := h
    rfl
  · obtain ⟨a, dx, m, g, rfl, e, k⟩ := h
    suffices h : ∃ tt, PSs (cxOf CX0 P w K mg base N_Action_falls d_Action_falls.qual (defScope (inClass (top 99) 3)) (d_Action_falls.at_ K) cdv A outer s H E).nox (defBody (inClass (top 99) 3)) tt ∧ tt { nx := fun _ H' => Q .non H', rt := Q } (L2.start N_Action_falls [.ref a]) H by
      obtain ⟨tt, a, b⟩ := h
      exact ⟨tt, a.nox, b⟩
    refine ⟨_, (pss_one (ps_ret (pe_fld (pv 0) rfl))), ?_⟩
    simp only [tSeq, tRet, tRetN, tAsg, tIf, tIfS, tNext, tTest, tB, cx_K, cx_w, cx_nK, cx_nw, tOp, tUn, tVar, tC, tCons, tNil, tTup, tLst, tF, tM1, tCB, tAnd, tOr, tNot, tAndV, tOrV, tNotV, tChain, tFld, tPart, tNoPart, tSl, rU, rI0, rI, rEq, rNe, rIxD, rIxL, rIxT, rLen, rIsi, rLenQ, rTupOf, rIn, rSlL, rNewStrs, rAppend, rCat, gUnl, tDrop, wipe, List.foldl_cons, List.foldl_nil, StX.tMakeR, sFld, tLenSetN, tDictZip, rIndex, rSorted, rSortedT, rSetOfT, tPar, tPar3, tBM, rSum, rAll, rAny, tNever, gName, gTup, gCons, gNil, L2.start, List.map_cons, List.map_nil, List.length_cons, List.length_nil, List.cons_append, List.nil_append, List.set_cons_zero, List.set_cons_succ, List.getElem?_cons_zero, List.getElem?_cons_succ, Option.some.injEq, V.int.injEq, V.str.injEq, V.bl.injEq, V.ref.injEq, V.ty.injEq, List.cons.injEq, exists_and_left, exists_and_right, exists_eq_left, exists_eq_left', exists_eq, exists_eq', and_true, true_and, exists_const, List.replicate, Nat.sub_self, Nat.reduceAdd, Nat.reduceSub, if_true, if_false, Bool.false_eq_true, ite_true, ite_false, reduceIte]
    exact ⟨_, _, _, e, T.cls.2.2.2.2, T.noA.2, _, rfl, k⟩
/-- the formula of a cell: sizes at which the action does not fall -/
def spResult (P : Program) (w : World) (K : PySem.W.Frag) : Sp := fun vs H Q _ => ∃ (a ca : Addr) (n i j : Int) (ms : Nat → List Int), vs = [.ref a, .int n, .ref ca] ∧ ActAt P w K H a ms [] none none ∧ CellAt H ca (i, j) ∧ n ≤ 10 ^ 30 ∧ 0 ≤ i ∧ i < n ∧ 0 ≤ j ∧ j < n ∧
  ∀ (k : Int × Int × Int) (cs : List Cell), KindOf n i j k → Imgs n i j cs → ∃ q s, q < 24 ∧ kindAt q = k ∧ s < cs.length ∧ (ms q).length ≤ 256 ∧ leastOf (ms q) (cIdx (i, j) cs) = [2 ^ s] ∧
    ∀ H' t t2 cc, Same H H' → H' t = some (.tup [.ref t2]) → H' t2 = some (.tup [.ref cc]) → CellAt H' cc (cs.getD s (0, 0)) → Q (.ref t) H'
abbrev N_Action_result : List Str := ["self", "size", "cell", "cells", "contents", "k", "content"]
theorem sc_Action_result : FnScope N_Action_result ["self", "size", "cell"] (defScope (inClass (top 99) 5)) := ⟨rfl, rfl, rfl, by decide +kernel, rfl, by decide +kernel, by decide +kernel⟩
theorem F_Action_result (T : TX w K mg) : FnR P w K mg base CX0 5 (ma K (ga K "Action") "result") (spResult P w K) := by
  obtain ⟨fd, F⟩ := T.fi 61
  have nd := sc_Action_result.nd
  have F_check_size := F_check_size (P := P) (base := base) T
  have F_check_cell := F_check_cell (P := P) (base := base) T
  have F_Sizes_contains := F_Sizes_contains (P := P) (base := base) T
  have F_images_of := F_images_of (P := P) (base := base) T
  have F_least_contents := F_least_contents (P := P) (base := base) T
  have F_found_kind := F_found_kind (P := P) (base := base) T
  have F_bits_of := F_bits_of (P := P) (base := base) T
  refine raw0 F sc_Action_result (fun vs H Q E h => ?_) (fun _ _ _ _ _ _ us hl => match us, hl with | [_, _, _], _ => rfl) (fun cdv A outer s H vs Q E hr h => ?_)
  · obtain ⟨a, ca, n, i, j, ms, rfl, ha, hc, hn, i1, i2, j1, j2, k⟩ := h
    rfl
  · obtain ⟨a, ca, n, i, j, ms, rfl, ha, hc, hn, i1, i2, j1, j2, k⟩ := h
    refine ⟨_, (pss_cons (ps_expr (pe_f F_check_size hr (pa_cons (pv 1) pa_nil)))
    (pss_cons (ps_expr (pe_f F_check_cell hr (pa_cons (pv 1) (pa_cons (pv 2) pa_nil))))
    (pss_cons (ps_if (pt_cmpR (r := rOwnIn (ga K "Sizes") (spSizesContains K) false) (op_inOwn T.mC.1 T.mC.2.1 F_Sizes_contains (hr.mono (by decide))) (pv 1) (pe_fld (pv 0) rfl) (by rfl)) (pss_one (ps_never)) pss_nil)
    (pss_cons (ps_set (i := 3) nd rfl (Or.inr rfl) (pe_f F_images_of hr (pa_cons (pv 1) (pa_cons (pv 2) pa_nil))))
    (pss_cons (ps_set (i := 4) nd rfl (Or.inl rfl) (pe_f F_least_contents hr (pa_cons (pe_mgetP P w K (pe_fld (pv 0) rfl) (pe_f F_found_kind hr (pa_cons (pv 1) (pa_cons (pv 2) pa_nil))) (fun _ _ => rfl) rfl rfl rfl (hu_of hr)) (pa_cons (pe_tidx (hu65_of hr) (pv 3) (pa_cons (pv 2) pa_nil) : PE _ _ (tTIdx K _ _)) pa_nil))))
    (pss_one (ps_ret (pe_callTy (r := rTupOf K) call_tuple_of (by rfl) (T.z "tuple") (by decide +kernel) (pa_cons (pe_callB (r := rSortedD K) (cr_sortedD hr.units) (by rfl) (T.z "sorted") (by decide +kernel) (pa_cons (pe_lc (own := [("content", 6)]) (g := gName 6) (tt := tYes) (by rfl) nd (pi_list (pv 4)) (blkOk_by (own := [("content", 6)]) (N := N_Action_result) (sc := (defScope (inClass (top 99) 5))) (by decide +kernel)) (fun _ _ _ _ _ => (pg_name (i := 6) nd rfl (Or.inl rfl))) (fun _ _ _ _ _ => pts_nil) (fun _ _ _ _ _ => (pe_callTy (r := rTupOf K) call_tuple_of (by rfl) (T.z "tuple") (by decide +kernel) (pa_cons (pe_lc (own := [("k", 5)]) (g := gName 5) (tt := tYes) (by rfl) nd (pi_list (pe_f F_bits_of hr (pa_cons (pv 6) pa_nil)) : PI _ _ _ (iList K _)) (blkOk_by (own := [("k", 5)]) (N := N_Action_result) (by rfl)) (fun _ _ _ _ _ => (pg_name (i := 5) nd rfl (Or.inl rfl))) (fun _ _ _ _ _ => pts_nil) (fun _ _ _ _ _ => (pe_ix (r := rIxT K) ix_tup (pv 3) (pv 5) (fun _ _ => rfl)))) pa_nil)))) pa_nil)) pa_nil))))))))), ?_⟩
    obtain ⟨dx, D, g, a1, a2, a3⟩ := id ha
    refine seqG fun R hR => ?_
    simp only [tSeq, tRet, tRetN, tAsg, tIf, tIfS, tNext, tTest, tB, cx_K, cx_w, cx_nK, cx_nw, tOp, tUn, tVar, tC, tCons, tNil, tTup, tLst, tF, tM1, tCB, tAnd, tOr, tNot, tAndV, tOrV, tNotV, tChain, tFld, tPart, tNoPart, tSl, rU, rI0, rI, rEq, rNe, rIxD, rIxL, rIxT, rLen, rIsi, rLenQ, rTupOf, rIn, rSlL, rNewStrs, rAppend, rCat, gUnl, tDrop, wipe, List.foldl_cons, List.foldl_nil, StX.tMakeR, sFld, tLenSetN, tDictZip, rIndex, rSorted, rSortedT, rSetOfT, tPar, tPar3, tBM, rSum, rAll, rAny, tNever, gName, gTup, gCons, gNil, L2.start, List.map_cons, List.map_nil, List.length_cons, List.length_nil, List.cons_append, List.nil_append, List.set_cons_zero, List.set_cons_succ, List.getElem?_cons_zero, List.getElem?_cons_succ, Option.some.injEq, V.int.injEq, V.str.injEq, V.bl.injEq, V.ref.injEq, V.ty.injEq, List.cons.injEq, exists_and_left, exists_and_right, exists_eq_left, exists_eq_left', exists_eq, exists_eq', and_true, true_and, exists_const, List.replicate, Nat.sub_self, Nat.reduceAdd, Nat.reduceSub, if_true, if_false, Bool.false_eq_true, ite_true, ite_false, reduceIte]
    refine ⟨n, rfl, by omega, hn, ?_⟩
    rw [hR]; clear hR R
    refine seqG fun R hR => ?_
    simp only [tSeq, tRet, tRetN, tAsg, tIf, tIfS, tNext, tTest, tB, cx_K, cx_w, cx_nK, cx_nw, tOp, tUn, tVar, tC, tCons, tNil, tTup, tLst, tF, tM1, tCB, tAnd, tOr, tNot, tAndV, tOrV, tNotV, tChain, tFld, tPart, tNoPart, tSl, rU, rI0, rI, rEq, rNe, rIxD, rIxL, rIxT, rLen, rIsi, rLenQ, rTupOf, rIn, rSlL, rNewStrs, rAppend, rCat, gUnl, tDrop, wipe, List.foldl_cons, List.foldl_nil, StX.tMakeR, sFld, tLenSetN, tDictZip, rIndex, rSorted, rSortedT, rSetOfT, tPar, tPar3, tBM, rSum, rAll, rAny, tNever, gName, gTup, gCons, gNil, L2.start, List.map_cons, List.map_nil, List.length_cons, List.length_nil, List.cons_append, List.nil_append, List.set_cons_zero, List.set_cons_succ, List.getElem?_cons_zero, List.getElem?_cons_succ, Option.some.injEq, V.int.injEq, V.str.injEq, V.bl.injEq, V.ref.injEq, V.ty.injEq, List.cons.injEq, exists_and_left, exists_and_right, exists_eq_left, exists_eq_left', exists_eq, exists_eq', and_true, true_and, exists_const, List.replicate, Nat.sub_self, Nat.reduceAdd, Nat.reduceSub, if_true, if_false, Bool.false_eq_true, ite_true, ite_false, reduceIte]
    refine ⟨ca, i, j, n, rfl, hc, i1, i2, j1, j2, ?_⟩
    rw [hR]; clear hR R
    refine seqG fun R hR => ?_
    simp only [tSeq, tRet, tRetN, tAsg, tIf, tIfS, tNext, tTest, tB, cx_K, cx_w, cx_nK, cx_nw, tOp, tUn, tVar, tC, tCons, tNil, tTup, tLst, tF, tM1, tCB, tAnd, tOr, tNot, tAndV, tOrV, tNotV, tChain, tFld, tPart, tNoPart, tSl, rU, rI0, rI, rEq, rNe, rIxD, rIxL, rIxT, rLen, rIsi, rLenQ, rTupOf, rIn, rSlL, rNewStrs, rAppend, rCat, gUnl, tDrop, wipe, List.foldl_cons, List.foldl_nil, StX.tMakeR, sFld, tLenSetN, tDictZip, rIndex, rSorted, rSortedT, rSetOfT, tPar, tPar3, tBM, rSum, rAll, rAny, tNever, gName, gTup, gCons, gNil, L2.start, List.map_cons, List.map_nil, List.length_cons, List.length_nil, List.cons_append, List.nil_append, List.set_cons_zero, List.set_cons_succ, List.getElem?_cons_zero, List.getElem?_cons_succ, Option.some.injEq, V.int.injEq, V.str.injEq, V.bl.injEq, V.ref.injEq, V.ty.injEq, List.cons.injEq, exists_and_left, exists_and_right, exists_eq_left, exists_eq_left', exists_eq, exists_eq', and_true, true_and, exists_const, List.replicate, Nat.sub_self, Nat.reduceAdd, Nat.reduceSub, if_true, if_false, Bool.false_eq_true, ite_true, ite_false, reduceIte]
    refine ⟨_, _, _, a1, T.cls.2.2.2.2, T.noA.2, _, rfl, in_none a3 ⟨_, rfl, iteF ?_⟩⟩
    rw [hR]; clear hR R
    refine seqG fun R hR => ?_
    simp only [tSeq, tRet, tRetN, tAsg, tIf, tIfS, tNext, tTest, tB, cx_K, cx_w, cx_nK, cx_nw, tOp, tUn, tVar, tC, tCons, tNil, tTup, tLst, tF, tM1, tCB, tAnd, tOr, tNot, tAndV, tOrV, tNotV, tChain, tFld, tPart, tNoPart, tSl, rU, rI0, rI, rEq, rNe, rIxD, rIxL, rIxT, rLen, rIsi, rLenQ, rTupOf, rIn, rSlL, rNewStrs, rAppend, rCat, gUnl, tDrop, wipe, List.foldl_cons, List.foldl_nil, StX.tMakeR, sFld, tLenSetN, tDictZip, rIndex, rSorted, rSortedT, rSetOfT, tPar, tPar3, tBM, rSum, rAll, rAny, tNever, gName, gTup, gCons, gNil, L2.start, List.map_cons, List.map_nil, List.length_cons, List.length_nil, List.cons_append, List.nil_append, List.set_cons_zero, List.set_cons_succ, List.getElem?_cons_zero, List.getElem?_cons_succ, Option.some.injEq, V.int.injEq, V.str.injEq, V.bl.injEq, V.ref.injEq, V.ty.injEq, List.cons.injEq, exists_and_left, exists_and_right, exists_eq_left, exists_eq_left', exists_eq, exists_eq', and_true, true_and, exists_const, List.replicate, Nat.sub_self, Nat.reduceAdd, Nat.reduceSub, if_true, if_false, Bool.false_eq_true, ite_true, ite_false, reduceIte]
    refine ⟨n, i, j, ca, rfl, hc, i1, i2, j1, j2, fun H2 ta qs s2 im cel => ?_⟩
    rw [hR]; clear hR R
    refine seqG fun R hR => ?_
    simp only [tSeq, tRet, tRetN, tAsg, tIf, tIfS, tNext, tTest, tB, cx_K, cx_w, cx_nK, cx_nw, tOp, tUn, tVar, tC, tCons, tNil, tTup, tLst, tF, tM1, tCB, tAnd, tOr, tNot, tAndV, tOrV, tNotV, tChain, tFld, tPart, tNoPart, tSl, rU, rI0, rI, rEq, rNe, rIxD, rIxL, rIxT, rLen, rIsi, rLenQ, rTupOf, rIn, rSlL, rNewStrs, rAppend, rCat, gUnl, tDrop, wipe, List.foldl_cons, List.foldl_nil, StX.tMakeR, sFld, tLenSetN, tDictZip, rIndex, rSorted, rSortedT, rSetOfT, tPar, tPar3, tBM, rSum, rAll, rAny, tNever, gName, gTup, gCons, gNil, L2.start, List.map_cons, List.map_nil, List.length_cons, List.length_nil, List.cons_append, List.nil_append, List.set_cons_zero, List.set_cons_succ, List.getElem?_cons_zero, List.getElem?_cons_succ, Option.some.injEq, V.int.injEq, V.str.injEq, V.bl.injEq, V.ref.injEq, V.ty.injEq, List.cons.injEq, exists_and_left, exists_and_right, exists_eq_left, exists_eq_left', exists_eq, exists_eq', and_true, true_and, exists_const, List.replicate, Nat.sub_self, Nat.reduceAdd, Nat.reduceSub, if_true, if_false, Bool.false_eq_true, ite_true, ite_false, reduceIte, tMGet]
    refine ⟨_, _, _, s2 _ _ a1, T.cls.2.2.2.2, T.noA.1, _, rfl, n, i, j, ca, rfl, s2 _ _ hc, fun H3 tk kk s3 htk hkk ek => ?_⟩
    obtain ⟨q, s', hq, ekq, hs, hlen, hl1, k⟩ := k kk (qs.map (·.2)) hkk im
    obtain ⟨ad, p1, p2⟩ := a2.same (s2.trans s3)
    have hkq : SqT K H3 tk ((kKey q).map kV) := by
      refine .of ?_
      rw [ek, kKey_kV q hq, ← ekq]
      have qq : ∀ q < 24, (kinds.getD q []).map V.int = [V.int (kindAt q).1, .int (kindAt q).2.1, .int (kindAt q).2.2] := by decide +kernel
      rw [qq q hq]
    refine ⟨D, rfl, _, tk, rfl, p1, keys_there T ad (Nat.le_refl _), kKey q, hkq, _, _, at_key ad hq, ?_⟩
    have cel3 := cel.same s3
    have sq3 : SqT K H3 ta (qs.map fun p => V.ref p.1) := cel3.sq
    obtain ⟨⟨ob, od, et⟩, cc⟩ := cel3
    simp only [tTIdx]
    refine ⟨_, rfl, ta, ob, _, rfl, et, od, ?_⟩
    simp only [tSeq, tRet, tRetN, tAsg, tIf, tIfS, tNext, tTest, tB, cx_K, cx_w, cx_nK, cx_nw, tOp, tUn, tVar, tC, tCons, tNil, tTup, tLst, tF, tM1, tCB, tAnd, tOr, tNot, tAndV, tOrV, tNotV, tChain, tFld, tPart, tNoPart, tSl, rU, rI0, rI, rEq, rNe, rIxD, rIxL, rIxT, rLen, rIsi, rLenQ, rTupOf, rIn, rSlL, rNewStrs, rAppend, rCat, gUnl, tDrop, wipe, List.foldl_cons, List.foldl_nil, StX.tMakeR, sFld, tLenSetN, tDictZip, rIndex, rSorted, rSortedT, rSetOfT, tPar, tPar3, tBM, rSum, rAll, rAny, tNever, gName, gTup, gCons, gNil, L2.start, List.map_cons, List.map_nil, List.length_cons, List.length_nil, List.cons_append, List.nil_append, List.set_cons_zero, List.set_cons_succ, List.getElem?_cons_zero, List.getElem?_cons_succ, Option.some.injEq, V.int.injEq, V.str.injEq, V.bl.injEq, V.ref.injEq, V.ty.injEq, List.cons.injEq, exists_and_left, exists_and_right, exists_eq_left, exists_eq_left', exists_eq, exists_eq', and_true, true_and, exists_const, List.replicate, Nat.sub_self, Nat.reduceAdd, Nat.reduceSub, if_true, if_false, Bool.false_eq_true, ite_true, ite_false, reduceIte]
    have hc3 : CellAt H3 ca (i, j) := s3 _ _ (s2 _ _ hc)
    have hmem : (i, j) ∈ qs.map (·.2) := im.2.1 _ (List.mem_cons_self ..)
    refine ⟨ta, ca, qs, (i, j), rfl, rfl, sq3, fun p hp => .of (cc p hp), .of hc3, hmem, ?_⟩
    refine ⟨ad q, ms q, cIdx (i, j) (qs.map (·.2)), rfl, .of (p2 q hq), hlen, fun H4 tl s4 e4 => ?_⟩
    rw [hl1] at e4
    rw [hR]; clear hR R
    have s24 := s3.trans s4
    have cel4 := cel.same s24
    have h8 := im.len
    have hbs : bitsOf ((2 ^ s' : Nat) : Int) = [s'] := bits_one s' (by omega)
    rw [List.length_map] at hs
    obtain ⟨pc, hpc⟩ : ∃ pc, qs[s']? = some pc := ⟨_, List.getElem?_eq_getElem hs⟩
    have epc : (qs.map (·.2)).getD s' (0, 0) = pc.2 := by rw [List.getD_eq_getElem?_getD, List.getElem?_map, hpc]; rfl
    rw [epc] at k
    have cpc := cel4.2 pc (List.mem_of_getElem? hpc)
    have s04 := s2.trans s24
    have sq4 : SqT K H4 ta (qs.map fun p => V.ref p.1) := cel4.sq
    have hix : atI (qs.map fun p => V.ref p.1) (s' : Nat) = some (V.ref pc.1) := atI_nat (by rw [List.getElem?_map, hpc]; rfl)
    clear epc hl1 hlen hkk hkq p1 p2 et od cc hc3 hmem sq3 cel4 h8
    have e4 : H4 tl = some (.lst [V.int ((2 ^ s' : Nat) : Int)]) := e4
    generalize ((2 ^ s' : Nat) : Int) = c at hbs e4
    simp only [tSeq, tRet, tRetN, tAsg, tIf, tIfS, tNext, tTest, tB, cx_K, cx_w, cx_nK, cx_nw, tOp, tUn, tVar, tC, tCons, tNil, tTup, tLst, tF, tM1, tCB, tAnd, tOr, tNot, tAndV, tOrV, tNotV, tChain, tFld, tPart, tNoPart, tSl, rU, rI0, rI, rEq, rNe, rIxD, rIxL, rIxT, rLen, rIsi, rLenQ, rTupOf, rIn, rSlL, rNewStrs, rAppend, rCat, gUnl, tDrop, wipe, List.foldl_cons, List.foldl_nil, StX.tMakeR, sFld, tLenSetN, tDictZip, rIndex, rSorted, rSortedT, rSetOfT, tPar, tPar3, tBM, rSum, rAll, rAny, tNever, gName, gTup, gCons, gNil, L2.start, List.map_cons, List.map_nil, List.length_cons, List.length_nil, List.cons_append, List.nil_append, List.set_cons_zero, List.set_cons_succ, List.getElem?_cons_zero, List.getElem?_cons_succ, Option.some.injEq, V.int.injEq, V.str.injEq, V.bl.injEq, V.ref.injEq, V.ty.injEq, List.cons.injEq, exists_and_left, exists_and_right, exists_eq_left, exists_eq_left', exists_eq, exists_eq', and_true, true_and, exists_const, List.replicate, Nat.sub_self, Nat.reduceAdd, Nat.reduceSub, if_true, if_false, Bool.false_eq_true, ite_true, ite_false, reduceIte]
    refine ⟨_, rfl, tl, rfl, ⟨_, .of e4⟩, fun D1 hD1 => lcr (walk_list (xs := [V.int c])) (by show 1 ≤ sizeLine; rw [sizeLine_eq]; decide) hD1 (fun _ y H => ∃ t2, y = .ref t2 ∧ H t2 = some (.tup [.ref pc.1])) (fun j y H H' st h => ?_) (fun H sa => .of (sa _ _ e4)) (fun j x H5 H' Q5 hj sa5 y hq5 => ?_) (fun H5 ys sa5 e5 hl hr5 => ?_)⟩
    · obtain ⟨t2, h1, h2⟩ := h
      exact ⟨t2, h1, st _ _ h2⟩
    · obtain ⟨rfl, hx⟩ := y
      have hj0 : j = 0 := by simp at hj; omega
      subst hj0
      cases hx
      refine ⟨rfl, ?_⟩
      simp only [tSeq, tRet, tRetN, tAsg, tIf, tIfS, tNext, tTest, tB, cx_K, cx_w, cx_nK, cx_nw, tOp, tUn, tVar, tC, tCons, tNil, tTup, tLst, tF, tM1, tCB, tAnd, tOr, tNot, tAndV, tOrV, tNotV, tChain, tFld, tPart, tNoPart, tSl, rU, rI0, rI, rEq, rNe, rIxD, rIxL, rIxT, rLen, rIsi, rLenQ, rTupOf, rIn, rSlL, rNewStrs, rAppend, rCat, gUnl, tDrop, wipe, List.foldl_cons, List.foldl_nil, StX.tMakeR, sFld, tLenSetN, tDictZip, rIndex, rSorted, rSortedT, rSetOfT, tPar, tPar3, tBM, rSum, rAll, rAny, tNever, gName, gTup, gCons, gNil, L2.start, List.map_cons, List.map_nil, List.length_cons, List.length_nil, List.cons_append, List.nil_append, List.set_cons_zero, List.set_cons_succ, List.getElem?_cons_zero, List.getElem?_cons_succ, Option.some.injEq, V.int.injEq, V.str.injEq, V.bl.injEq, V.ref.injEq, V.ty.injEq, List.cons.injEq, exists_and_left, exists_and_right, exists_eq_left, exists_eq_left', exists_eq, exists_eq', and_true, true_and, exists_const, List.replicate, Nat.sub_self, Nat.reduceAdd, Nat.reduceSub, if_true, if_false, Bool.false_eq_true, ite_true, ite_false, reduceIte]
      refine ⟨_, rfl, c, rfl, fun H6 tb s6 e6 => ?_⟩
      rw [hbs] at e6
      refine ⟨tb, rfl, ⟨_, .of e6⟩, fun D2 hD2 => lcm (walk_list (xs := [V.int (s' : Nat)])) (by show 1 ≤ sizeLine; rw [sizeLine_eq]; decide) hD2 (fun _ => V.ref pc.1) (fun H sa => .of (sa _ _ e6)) (fun j x H7 H8 Q7 hj sa7 y hq7 => ?_) (fun H7 sa7 e7 => ?_)⟩
      · obtain ⟨rfl, hx⟩ := y
        have hj0 : j = 0 := by simp at hj; omega
        subst hj0
        cases hx
        refine ⟨rfl, ?_⟩
        simp only [tSeq, tRet, tRetN, tAsg, tIf, tIfS, tNext, tTest, tB, cx_K, cx_w, cx_nK, cx_nw, tOp, tUn, tVar, tC, tCons, tNil, tTup, tLst, tF, tM1, tCB, tAnd, tOr, tNot, tAndV, tOrV, tNotV, tChain, tFld, tPart, tNoPart, tSl, rU, rI0, rI, rEq, rNe, rIxD, rIxL, rIxT, rLen, rIsi, rLenQ, rTupOf, rIn, rSlL, rNewStrs, rAppend, rCat, gUnl, tDrop, wipe, List.foldl_cons, List.foldl_nil, StX.tMakeR, sFld, tLenSetN, tDictZip, rIndex, rSorted, rSortedT, rSetOfT, tPar, tPar3, tBM, rSum, rAll, rAny, tNever, gName, gTup, gCons, gNil, L2.start, List.map_cons, List.map_nil, List.length_cons, List.length_nil, List.cons_append, List.nil_append, List.set_cons_zero, List.set_cons_succ, List.getElem?_cons_zero, List.getElem?_cons_succ, Option.some.injEq, V.int.injEq, V.str.injEq, V.bl.injEq, V.ref.injEq, V.ty.injEq, List.cons.injEq, exists_and_left, exists_and_right, exists_eq_left, exists_eq_left', exists_eq, exists_eq', and_true, true_and, exists_const, List.replicate, Nat.sub_self, Nat.reduceAdd, Nat.reduceSub, if_true, if_false, Bool.false_eq_true, ite_true, ite_false, reduceIte]
        exact ⟨_, Same.tup (sa5.trans (s6.trans sa7)) sq4, _, hix, hq7 _ (Same.refl _)⟩
      · exact ⟨D2, rfl, [V.ref pc.1], .inl ⟨.of e7, fun l hl => hq5 _ _ (s6.trans (sa7.trans (Same.upd (Same.refl _) hl))) ⟨l, rfl, upd_same⟩⟩⟩
    · match ys, hl with
      | [y], _ =>
        obtain ⟨t2, rfl, et2⟩ := hr5 0 y rfl
        have cpc5 : CellAt H5 pc.1 pc.2 := sa5 _ _ cpc
        have st : Same H H5 := s04.trans sa5
        have ddp : Dp K H5 (.ref t2) (.tuple [pairD pc.2]) := .tup (.of et2) (.cons (.tup (.of cpc5) (.cons (.int _) (.cons (.int _) .nil))) .nil)
        refine ⟨D1, [(V.ref t2, .tuple [pairD pc.2])], rfl, .of e5, fun b hb => ?_, fun b hb c hc => ?_, fun b hb => ?_, fun b hb => ?_, fun p hp => ?_⟩
        · rw [List.mem_singleton] at hb
          rw [hb]
          exact ddp
        · rw [List.mem_singleton] at hb hc
          rw [hb, hc]
          rfl
        · rw [List.mem_singleton] at hb
          rw [hb]
          exact ⟨_, _, rfl⟩
        · rw [List.mem_singleton] at hb
          rw [hb]
          simp [pairD, PyData.depth, PyData.depthAll]
        · rw [List.mergeSort_singleton]
          have sp : Same H5 (upd H5 p (.lst [V.ref t2])) := Same.upd (Same.refl _) hp
          have ep : (upd H5 p (.lst [V.ref t2])) p = some (.lst [V.ref t2]) := upd_same
          show ∃ p', V.ref p = V.ref p' ∧ _
          refine ⟨p, rfl, [V.ref t2], .inl ⟨.of ep, fun l hl => ?_⟩⟩
          have sl := sp.trans (Same.upd (o := .tup [V.ref t2]) (Same.refl _) hl)
          exact k _ l t2 pc.1 (st.trans sl) upd_same (sl _ _ et2) (sl _ _ cpc5)
end
end Sq

set_option Elab.async false
set_option linter.all false
set_option maxRecDepth 100000
set_option maxHeartbeats 4000000
/-! ## Walks: the draws -/
namespace Sq
open PySem PySem.Spec PyProof.Rows L2 He
section
variable {P : Program} {w : World} {K : PySem.W.Frag} {mg : Str → Option Value} {base : Heap}
theorem forG {wi : TI} {g : TG} {tb : TS} {D : Ends} {σ : L2.St} {H : Hp} (h : ∀ F : It → Hp → Prop, F = (fun J H1 => ∃ W : Nat → Nat → L2.St → Hp → Prop, (∃ m, W 0 m σ H1) ∧ ∀ i m σ H, W i m σ H →
    (J.stop i H ∧ D.nx σ H) ∨ (J.go i H ∧ ∃ N : L2.St → Hp → Prop, (∀ σ' H', N σ' H' → ∃ m', m' < m ∧ W (i + 1) m' σ' H') ∧ ∀ x H', J.yld i H x H' → g x σ H' fun σ2 H2 => tb { D with nx := N, ct := N, bk := D.nx } σ2 H2)) → wi σ H F) : tFor wi g tb D σ H := h _ rfl
theorem cut_mem {xs : List V} {lo hi : Option Int} {x : V} (h : x ∈ cutV xs lo hi) : x ∈ xs := by
  unfold cutV at h
  exact List.mem_of_mem_drop (List.mem_of_mem_take h)
/-- where draws come from: a list of two numbers -/
def spPurl (K : PySem.W.Frag) : Sp := fun vs H Q _ => ∃ (a : Addr) (ns : List Int) (k : Nat), vs = [.ref a, .int k] ∧ SqL K H a (ns.map V.int) ∧ ns.length ≤ 1000 ∧ ∀ H' p x y, Same H H' → H p = none → H' p = some (.lst [.int x, .int y]) → Q (.ref p) H'
abbrev N_law_purl : List Str := ["_law_script", "_law_spot_here", "_law_mixed", "_law_cell", "_law_own"]
theorem sc_law_purl : FnScope N_law_purl ["_law_script", "_law_spot_here"] (defScope (top 106)) := ⟨rfl, rfl, rfl, by decide +kernel, rfl, by decide +kernel, by decide +kernel⟩
theorem F_law_purl (T : TX w K mg) : Fn P w K mg base 1 "_law_purl" (spPurl K) := by
  obtain ⟨fd, F⟩ := T.fi 42
  have nd := sc_law_purl.nd
  refine ⟨_, raw0 F sc_law_purl (fun vs H Q E h => ?_) (fun _ _ _ _ _ _ us hl => match us, hl with | [_, _], _ => rfl) (fun cdv A outer s H vs Q E hr h => ?_), T.g "_law_purl", F.kp⟩
  · obtain ⟨a, ns, k', rfl, ha, hl, k⟩ := h
    rfl
  · obtain ⟨a, ns, k', rfl, ha, hl, k⟩ := h
    refine ⟨_, (pss_cons (ps_set (i := 2) nd rfl (Or.inl rfl) (pe_op op_add (pe_int) (pe_op op_mul (pe_int) (pv 1))))
    (pss_cons (ps_for PassesOwn.never rfl (pi_list (pe_op op_cat (pe_slice sl_list (pv 0) po_none (po_some (pe_int))) (pe_slice sl_list (pv 0) (po_some (pv 1)) (po_some (pe_op op_add (pv 1) (pe_int)))))) (pg_name (i := 3) nd rfl (Or.inl rfl)) (pss_one (ps_set (i := 2) nd rfl (Or.inl rfl) (pe_op op_mod (pe_callTy call_int1 (by rfl) (T.z "int") (by decide +kernel) (pa_cons (pe_op op_add (pe_op op_add (pe_op op_mul (pv 2) (pe_int)) (pv 3)) (pe_int)) pa_nil)) (pe_int)))))
    (pss_cons (ps_set (i := 4) nd rfl (Or.inl rfl) (pe_ifExp (pt_cmpR op_lt (pv 1) (pe_callB call_len_seq (by rfl) (T.z "len") (by decide +kernel) (pa_cons (pv 0) pa_nil)) (nomark _)) (pe_ix ix_list (pv 0) (pv 1) (fun _ _ => rfl)) (pe_int)))
    (pss_one (ps_ret (pe_lst (pa_cons (pv 2) (pa_cons (pe_ifExp (pt_cmpR op_ge (pe_callB call_abs (by rfl) (T.z "abs") (by decide +kernel) (pa_cons (pv 4) pa_nil)) (pe_op op_pow (pe_int) (pe_int)) (nomark _)) (pe_callB call_abs (by rfl) (T.z "abs") (by decide +kernel) (pa_cons (pv 4) pa_nil)) (pe_int)) pa_nil)))))))), ?_⟩
    refine seqG fun R hR => ?_
    simp only [tSeq, tRet, tRetN, tAsg, tIf, tIfS, tNext, tTest, tB, cx_K, cx_w, cx_nK, cx_nw, tOp, tUn, tVar, tC, tCons, tNil, tTup, tLst, tF, tM1, tCB, tAnd, tOr, tNot, tAndV, tOrV, tNotV, tChain, tFld, tPart, tNoPart, tSl, rU, rI0, rI, rEq, rNe, rIxD, rIxL, rIxT, rLen, rIsi, rLenQ, rTupOf, rIn, rSlL, rNewStrs, rAppend, rCat, gUnl, tDrop, wipe, List.foldl_cons, List.foldl_nil, StX.tMakeR, sFld, tLenSetN, tDictZip, rIndex, rSorted, rSortedT, rSetOfT, tPar, tPar3, tBM, rSum, rAll, rAny, tNever, gName, gTup, gCons, gNil, L2.start, List.map_cons, List.map_nil, List.length_cons, List.length_nil, List.cons_append, List.nil_append, List.set_cons_zero, List.set_cons_succ, List.getElem?_cons_zero, List.getElem?_cons_succ, Option.some.injEq, V.int.injEq, V.str.injEq, V.bl.injEq, V.ref.injEq, V.ty.injEq, List.cons.injEq, exists_and_left, exists_and_right, exists_eq_left, exists_eq_left', exists_eq, exists_eq', and_true, true_and, exists_const, List.replicate, Nat.sub_self, Nat.reduceAdd, Nat.reduceSub, if_true, if_false, Bool.false_eq_true, ite_true, ite_false, reduceIte]
    refine ⟨.inl ⟨by decide, by decide⟩, ?_⟩
    rw [hR]; clear hR R
    refine seqG fun R hR => ?_
    refine forG fun F hF => ?_
    simp only [tSeq, tRet, tRetN, tAsg, tIf, tIfS, tNext, tTest, tB, cx_K, cx_w, cx_nK, cx_nw, tOp, tUn, tVar, tC, tCons, tNil, tTup, tLst, tF, tM1, tCB, tAnd, tOr, tNot, tAndV, tOrV, tNotV, tChain, tFld, tPart, tNoPart, tSl, rU, rI0, rI, rEq, rNe, rIxD, rIxL, rIxT, rLen, rIsi, rLenQ, rTupOf, rIn, rSlL, rNewStrs, rAppend, rCat, gUnl, tDrop, wipe, List.foldl_cons, List.foldl_nil, StX.tMakeR, sFld, tLenSetN, tDictZip, rIndex, rSorted, rSortedT, rSetOfT, tPar, tPar3, tBM, rSum, rAll, rAny, tNever, gName, gTup, gCons, gNil, L2.start, List.map_cons, List.map_nil, List.length_cons, List.length_nil, List.cons_append, List.nil_append, List.set_cons_zero, List.set_cons_succ, List.getElem?_cons_zero, List.getElem?_cons_succ, Option.some.injEq, V.int.injEq, V.str.injEq, V.bl.injEq, V.ref.injEq, V.ty.injEq, List.cons.injEq, exists_and_left, exists_and_right, exists_eq_left, exists_eq_left', exists_eq, exists_eq', and_true, true_and, exists_const, List.replicate, Nat.sub_self, Nat.reduceAdd, Nat.reduceSub, if_true, if_false, Bool.false_eq_true, ite_true, ite_false, reduceIte, iList]
    refine ⟨_, ha, fun p1 h1 => ?_⟩
    have s1 : Same H (upd H p1 (.lst (cutV (ns.map V.int) none (some 2)))) := Same.upd (Same.refl H) h1
    have e1 : (upd H p1 (.lst (cutV (ns.map V.int) none (some 2)))) p1 = some (.lst (cutV (ns.map V.int) none (some 2))) := upd_same
    generalize upd H p1 (.lst (cutV (ns.map V.int) none (some 2))) = H1 at s1 e1 ⊢
    refine ⟨_, s1.seq ha, fun p2 h2 => ?_⟩
    have s2 : Same H1 (upd H1 p2 (.lst (cutV (ns.map V.int) (some (k' : Int)) (some ((k' : Int) + 1))))) := Same.upd (Same.refl H1) h2
    have e2 : (upd H1 p2 (.lst (cutV (ns.map V.int) (some (k' : Int)) (some ((k' : Int) + 1))))) p2 = some (.lst (cutV (ns.map V.int) (some (k' : Int)) (some ((k' : Int) + 1)))) := upd_same
    generalize upd H1 p2 (.lst (cutV (ns.map V.int) (some (k' : Int)) (some ((k' : Int) + 1)))) = H2 at s2 e2 ⊢
    have hx : ∀ x ∈ cutV (ns.map V.int) none (some 2) ++ cutV (ns.map V.int) (some (k' : Int)) (some ((k' : Int) + 1)), ∃ z, x = V.int z := fun x hx => by
      have hx : x ∈ ns.map V.int := (List.mem_append.mp hx).elim cut_mem cut_mem
      obtain ⟨z, _, rfl⟩ := List.mem_map.mp hx
      exact ⟨z, rfl⟩
    have l1 := cutV_length (ns.map V.int) none (some 2)
    have l2 := cutV_length (ns.map V.int) (some (k' : Int)) (some ((k' : Int) + 1))
    rw [List.length_map] at l1 l2
    have e1 := s2 _ _ e1
    generalize cutV (ns.map V.int) none (some 2) = c1 at e1 hx l1
    generalize cutV (ns.map V.int) (some (k' : Int)) (some ((k' : Int) + 1)) = c2 at e2 hx l2
    refine ⟨c1, e1, c2, e2, by rw [sizeLine_eq]; omega, fun p3 h3 => ⟨⟨c1 ++ c2, .of upd_same⟩, ?_⟩⟩
    have s3 : Same H2 (upd H2 p3 (.lst (c1 ++ c2))) := Same.upd (Same.refl H2) h3
    have e3 : (upd H2 p3 (.lst (c1 ++ c2))) p3 = some (.lst (c1 ++ c2)) := upd_same
    generalize upd H2 p3 (.lst (c1 ++ c2)) = H3 at s3 e3 ⊢
    have s03 := s1.trans (s2.trans s3)
    rw [hF]; clear hF F
    obtain ⟨Pv, hPv⟩ : ∃ Pv : Nat → L2.St → Hp → Prop, Pv = fun b σ HC => ∃ (z : Int) (o : Option V), σ = [some (V.ref a), some (V.int (k' : Nat)), some (V.int z), o, none] ∧ HC = H3 := ⟨_, rfl⟩
    refine for_it (walk_list (xs := c1 ++ c2)) Pv (by rw [hPv]; exact ⟨_, _, rfl, rfl⟩) (fun b σ HC _ pC => ?_) (fun b y σC HC HD hb pC yC => ?_) (fun σC HC pC => ?_)
    · rw [hPv] at pC
      obtain ⟨_, _, _, rfl⟩ := pC
      exact .of e3
    · rw [hPv] at pC
      obtain ⟨z, o, rfl, rfl⟩ := pC
      obtain ⟨rfl, hy⟩ := yC
      obtain ⟨c, rfl⟩ := hx _ (List.mem_of_getElem? hy)
      simp only [tSeq, tRet, tRetN, tAsg, tIf, tIfS, tNext, tTest, tB, cx_K, cx_w, cx_nK, cx_nw, tOp, tUn, tVar, tC, tCons, tNil, tTup, tLst, tF, tM1, tCB, tAnd, tOr, tNot, tAndV, tOrV, tNotV, tChain, tFld, tPart, tNoPart, tSl, rU, rI0, rI, rEq, rNe, rIxD, rIxL, rIxT, rLen, rIsi, rLenQ, rTupOf, rIn, rSlL, rNewStrs, rAppend, rCat, gUnl, tDrop, wipe, List.foldl_cons, List.foldl_nil, StX.tMakeR, sFld, tLenSetN, tDictZip, rIndex, rSorted, rSortedT, rSetOfT, tPar, tPar3, tBM, rSum, rAll, rAny, tNever, gName, gTup, gCons, gNil, L2.start, List.map_cons, List.map_nil, List.length_cons, List.length_nil, List.cons_append, List.nil_append, List.set_cons_zero, List.set_cons_succ, List.getElem?_cons_zero, List.getElem?_cons_succ, Option.some.injEq, V.int.injEq, V.str.injEq, V.bl.injEq, V.ref.injEq, V.ty.injEq, List.cons.injEq, exists_and_left, exists_and_right, exists_eq_left, exists_eq_left', exists_eq, exists_eq', and_true, true_and, exists_const, List.replicate, Nat.sub_self, Nat.reduceAdd, Nat.reduceSub, if_true, if_false, Bool.false_eq_true, ite_true, ite_false, reduceIte]
      refine ⟨.inr ⟨by decide, by decide⟩, .inl ⟨by decide, ?_⟩⟩
      rw [hPv]
      exact ⟨_, _, rfl, rfl⟩
    · rw [hPv] at pC
      obtain ⟨z, o, rfl, rfl⟩ := pC
      show R _ _
      rw [hR]; clear hR R
      refine seqG fun R hR => ?_
      simp only [tSeq, tRet, tRetN, tAsg, tIf, tIfS, tNext, tTest, tB, cx_K, cx_w, cx_nK, cx_nw, tOp, tUn, tVar, tC, tCons, tNil, tTup, tLst, tF, tM1, tCB, tAnd, tOr, tNot, tAndV, tOrV, tNotV, tChain, tFld, tPart, tNoPart, tSl, rU, rI0, rI, rEq, rNe, rIxD, rIxL, rIxT, rLen, rIsi, rLenQ, rTupOf, rIn, rSlL, rNewStrs, rAppend, rCat, gUnl, tDrop, wipe, List.foldl_cons, List.foldl_nil, StX.tMakeR, sFld, tLenSetN, tDictZip, rIndex, rSorted, rSortedT, rSetOfT, tPar, tPar3, tBM, rSum, rAll, rAny, tNever, gName, gTup, gCons, gNil, L2.start, List.map_cons, List.map_nil, List.length_cons, List.length_nil, List.cons_append, List.nil_append, List.set_cons_zero, List.set_cons_succ, List.getElem?_cons_zero, List.getElem?_cons_succ, Option.some.injEq, V.int.injEq, V.str.injEq, V.bl.injEq, V.ref.injEq, V.ty.injEq, List.cons.injEq, exists_and_left, exists_and_right, exists_eq_left, exists_eq_left', exists_eq, exists_eq', and_true, true_and, exists_const, List.replicate, Nat.sub_self, Nat.reduceAdd, Nat.reduceSub, if_true, if_false, Bool.false_eq_true, ite_true, ite_false, reduceIte]
      have key : ∀ own : Int, R [some (V.ref a), some (V.int (k' : Nat)), some (V.int z), o, some (V.int own)] HC := by
        intro own
        rw [hR]; clear hR R
        simp only [tSeq, tRet, tRetN, tAsg, tIf, tIfS, tNext, tTest, tB, cx_K, cx_w, cx_nK, cx_nw, tOp, tUn, tVar, tC, tCons, tNil, tTup, tLst, tF, tM1, tCB, tAnd, tOr, tNot, tAndV, tOrV, tNotV, tChain, tFld, tPart, tNoPart, tSl, rU, rI0, rI, rEq, rNe, rIxD, rIxL, rIxT, rLen, rIsi, rLenQ, rTupOf, rIn, rSlL, rNewStrs, rAppend, rCat, gUnl, tDrop, wipe, List.foldl_cons, List.foldl_nil, StX.tMakeR, sFld, tLenSetN, tDictZip, rIndex, rSorted, rSortedT, rSetOfT, tPar, tPar3, tBM, rSum, rAll, rAny, tNever, gName, gTup, gCons, gNil, L2.start, List.map_cons, List.map_nil, List.length_cons, List.length_nil, List.cons_append, List.nil_append, List.set_cons_zero, List.set_cons_succ, List.getElem?_cons_zero, List.getElem?_cons_succ, Option.some.injEq, V.int.injEq, V.str.injEq, V.bl.injEq, V.ref.injEq, V.ty.injEq, List.cons.injEq, exists_and_left, exists_and_right, exists_eq_left, exists_eq_left', exists_eq, exists_eq', and_true, true_and, exists_const, List.replicate, Nat.sub_self, Nat.reduceAdd, Nat.reduceSub, if_true, if_false, Bool.false_eq_true, ite_true, ite_false, reduceIte]
        refine ⟨⟨by decide, by decide, by decide⟩, ?_⟩
        have fin : ∀ y : Int, 2 ≤ sizeLine ∧ ∀ p, HC p = none → Q (V.ref p) (upd HC p (.lst [V.int z, V.int y])) := fun y => ⟨by rw [sizeLine_eq]; decide, fun p hp => k _ p z y (s03.trans (Same.upd (Same.refl _) hp)) (Same.free s03 hp) upd_same⟩
        generalize (if own < 0 then -own else own) = ow
        by_cases hw : (10 : Int) ^ Int.toNat 18 ≤ ow
        · rw [decide_eq_true hw]; exact iteT (fin _)
        · rw [decide_eq_false hw]; exact iteF (fin _)
      refine ⟨_, .inl (s03.seq ha), ?_⟩
      by_cases hk : k' < ns.length
      · rw [decide_eq_true (by rw [List.length_map]; omega)]
        exact iteT ⟨_, s03.seq ha, V.int ns[k'], atI_nat (by rw [List.getElem?_map, List.getElem?_eq_getElem hk]; rfl), key _⟩
      · rw [decide_eq_false (by rw [List.length_map]; omega)]
        exact iteF (key 0)
def spDig : Sp := fun vs H Q _ => ∃ (p : Addr) (m x y : Int), vs = [.ref p, .int m] ∧ H p = some (.lst [.int x, .int y]) ∧ 0 < m ∧ m < 1073741824 ∧ ∀ H' d x' y', SameX p H H' → H' p = some (.lst [.int x', .int y']) → 0 ≤ d → d < m → Q (.int d) H'
abbrev N_law_dig : List Str := ["_law_purl_here", "_law_many", "_law_digit"]
theorem sc_law_dig : FnScope N_law_dig ["_law_purl_here", "_law_many"] (defScope (top 107)) := ⟨rfl, rfl, rfl, by decide +kernel, rfl, by decide +kernel, by decide +kernel⟩
theorem F_law_dig (T : TX w K mg) : Fn P w K mg base 1 "_law_dig" (spDig) := by
  obtain ⟨fd, F⟩ := T.fi 43
  have nd := sc_law_dig.nd
  refine ⟨_, raw0 F sc_law_dig (fun vs H Q E h => ?_) (fun _ _ _ _ _ _ us hl => match us, hl with | [_, _], _ => rfl) (fun cdv A outer s H vs Q E hr h => ?_), T.g "_law_dig", F.kp⟩
  · obtain ⟨p, m, x, y, rfl, hp, m1, m2, k⟩ := h
    rfl
  · obtain ⟨p, m, x, y, rfl, hp, m1, m2, k⟩ := h
    refine ⟨_, (pss_cons (ps_if (pt_cmpR op_gt (pe_ix ix_list (pv 0) (pe_int) (fun _ _ => rfl)) (pe_int) (nomark _)) (pss_cons (ps_asg (pe_callB call_divmod (by rfl) (T.z "divmod") (by decide +kernel) (pa_cons (pe_ix ix_list (pv 0) (pe_int) (fun _ _ => rfl)) (pa_cons (pv 1) pa_nil))) (pg_tup (n := 2) rfl (pgs_cons (pg_sub (pv 0) (pe_int) set_list) (pgs_cons (pg_name (i := 2) nd rfl (Or.inl rfl)) pgs_nil))))
    (pss_one (ps_ret (pv 2)))) pss_nil)
    (pss_cons (ps_asg (pe_op op_mod (pe_callTy call_int1 (by rfl) (T.z "int") (by decide +kernel) (pa_cons (pe_op op_add (pe_op op_mul (pe_ix ix_list (pv 0) (pe_int) (fun _ _ => rfl)) (pe_int)) (pe_int)) pa_nil)) (pe_int)) (pg_sub (pv 0) (pe_int) set_list))
    (pss_one (ps_ret (pe_op op_mod (pe_callTy call_int1 (by rfl) (T.z "int") (by decide +kernel) (pa_cons (pe_op op_fdivN (pe_ix ix_list (pv 0) (pe_int) (fun _ _ => rfl)) (pe_int)) pa_nil)) (pv 1)))))), ?_⟩
    refine seqG fun R hR => ?_
    simp only [tSeq, tRet, tRetN, tAsg, tIf, tIfS, tNext, tTest, tB, cx_K, cx_w, cx_nK, cx_nw, tOp, tUn, tVar, tC, tCons, tNil, tTup, tLst, tF, tM1, tCB, tAnd, tOr, tNot, tAndV, tOrV, tNotV, tChain, tFld, tPart, tNoPart, tSl, rU, rI0, rI, rEq, rNe, rIxD, rIxL, rIxT, rLen, rIsi, rLenQ, rTupOf, rIn, rSlL, rNewStrs, rAppend, rCat, gUnl, tDrop, wipe, List.foldl_cons, List.foldl_nil, StX.tMakeR, sFld, tLenSetN, tDictZip, rIndex, rSorted, rSortedT, rSetOfT, tPar, tPar3, tBM, rSum, rAll, rAny, tNever, gName, gTup, gCons, gNil, L2.start, List.map_cons, List.map_nil, List.length_cons, List.length_nil, List.cons_append, List.nil_append, List.set_cons_zero, List.set_cons_succ, List.getElem?_cons_zero, List.getElem?_cons_succ, Option.some.injEq, V.int.injEq, V.str.injEq, V.bl.injEq, V.ref.injEq, V.ty.injEq, List.cons.injEq, exists_and_left, exists_and_right, exists_eq_left, exists_eq_left', exists_eq, exists_eq', and_true, true_and, exists_const, List.replicate, Nat.sub_self, Nat.reduceAdd, Nat.reduceSub, if_true, if_false, Bool.false_eq_true, ite_true, ite_false, reduceIte]
    refine ⟨_, .of hp, V.int y, atI_nat (j := 1) rfl, y, rfl, ?_⟩
    by_cases hy : 0 < y
    · rw [decide_eq_true hy]
      refine iteT ⟨_, .of hp, V.int y, atI_nat (j := 1) rfl, y, m, ⟨rfl, rfl⟩, ⟨m1, m2⟩, fun t ht => ⟨_, .of upd_same, rfl, _, _, rfl, ?_⟩⟩
      simp only [tSeq, tRet, tRetN, tAsg, tIf, tIfS, tNext, tTest, tB, cx_K, cx_w, cx_nK, cx_nw, tOp, tUn, tVar, tC, tCons, tNil, tTup, tLst, tF, tM1, tCB, tAnd, tOr, tNot, tAndV, tOrV, tNotV, tChain, tFld, tPart, tNoPart, tSl, rU, rI0, rI, rEq, rNe, rIxD, rIxL, rIxT, rLen, rIsi, rLenQ, rTupOf, rIn, rSlL, rNewStrs, rAppend, rCat, gUnl, tDrop, wipe, List.foldl_cons, List.foldl_nil, StX.tMakeR, sFld, tLenSetN, tDictZip, rIndex, rSorted, rSortedT, rSetOfT, tPar, tPar3, tBM, rSum, rAll, rAny, tNever, gName, gTup, gCons, gNil, L2.start, List.map_cons, List.map_nil, List.length_cons, List.length_nil, List.cons_append, List.nil_append, List.set_cons_zero, List.set_cons_succ, List.getElem?_cons_zero, List.getElem?_cons_succ, Option.some.injEq, V.int.injEq, V.str.injEq, V.bl.injEq, V.ref.injEq, V.ty.injEq, List.cons.injEq, exists_and_left, exists_and_right, exists_eq_left, exists_eq_left', exists_eq, exists_eq', and_true, true_and, exists_const, List.replicate, Nat.sub_self, Nat.reduceAdd, Nat.reduceSub, if_true, if_false, Bool.false_eq_true, ite_true, ite_false, reduceIte, gSub, rSetL]
      have e : (upd H t (.tup [V.int (y / m), V.int (y % m)])) p = some (.lst [V.int x, V.int y]) := by rw [upd_ne (ne_of_none hp ht)]; exact hp
      exact ⟨_, e, 1, rfl, _, _, ⟨rfl, rfl⟩, rfl, k _ (y % m) x (y / m) ((SameX.of (Same.upd (Same.refl H) ht)).trans SameX.upd) upd_same (Int.emod_nonneg _ (by omega)) (Int.emod_lt_of_pos _ m1)⟩
    · rw [decide_eq_false hy]
      refine iteF ?_
      rw [hR]; clear hR R
      refine seqG fun R hR => ?_
      simp only [tSeq, tRet, tRetN, tAsg, tIf, tIfS, tNext, tTest, tB, cx_K, cx_w, cx_nK, cx_nw, tOp, tUn, tVar, tC, tCons, tNil, tTup, tLst, tF, tM1, tCB, tAnd, tOr, tNot, tAndV, tOrV, tNotV, tChain, tFld, tPart, tNoPart, tSl, rU, rI0, rI, rEq, rNe, rIxD, rIxL, rIxT, rLen, rIsi, rLenQ, rTupOf, rIn, rSlL, rNewStrs, rAppend, rCat, gUnl, tDrop, wipe, List.foldl_cons, List.foldl_nil, StX.tMakeR, sFld, tLenSetN, tDictZip, rIndex, rSorted, rSortedT, rSetOfT, tPar, tPar3, tBM, rSum, rAll, rAny, tNever, gName, gTup, gCons, gNil, L2.start, List.map_cons, List.map_nil, List.length_cons, List.length_nil, List.cons_append, List.nil_append, List.set_cons_zero, List.set_cons_succ, List.getElem?_cons_zero, List.getElem?_cons_succ, Option.some.injEq, V.int.injEq, V.str.injEq, V.bl.injEq, V.ref.injEq, V.ty.injEq, List.cons.injEq, exists_and_left, exists_and_right, exists_eq_left, exists_eq_left', exists_eq, exists_eq', and_true, true_and, exists_const, List.replicate, Nat.sub_self, Nat.reduceAdd, Nat.reduceSub, if_true, if_false, Bool.false_eq_true, ite_true, ite_false, reduceIte, gSub, rSetL]
      refine ⟨_, .of hp, V.int x, atI_nat (j := 0) rfl, x, rfl, .inr ⟨by decide, by decide⟩, .inl ⟨by decide, _, hp, 0, rfl, ?_⟩⟩
      rw [hR]; clear hR R
      simp only [tSeq, tRet, tRetN, tAsg, tIf, tIfS, tNext, tTest, tB, cx_K, cx_w, cx_nK, cx_nw, tOp, tUn, tVar, tC, tCons, tNil, tTup, tLst, tF, tM1, tCB, tAnd, tOr, tNot, tAndV, tOrV, tNotV, tChain, tFld, tPart, tNoPart, tSl, rU, rI0, rI, rEq, rNe, rIxD, rIxL, rIxT, rLen, rIsi, rLenQ, rTupOf, rIn, rSlL, rNewStrs, rAppend, rCat, gUnl, tDrop, wipe, List.foldl_cons, List.foldl_nil, StX.tMakeR, sFld, tLenSetN, tDictZip, rIndex, rSorted, rSortedT, rSetOfT, tPar, tPar3, tBM, rSum, rAll, rAny, tNever, gName, gTup, gCons, gNil, L2.start, List.map_cons, List.map_nil, List.length_cons, List.length_nil, List.cons_append, List.nil_append, List.set_cons_zero, List.set_cons_succ, List.getElem?_cons_zero, List.getElem?_cons_succ, Option.some.injEq, V.int.injEq, V.str.injEq, V.bl.injEq, V.ref.injEq, V.ty.injEq, List.cons.injEq, exists_and_left, exists_and_right, exists_eq_left, exists_eq_left', exists_eq, exists_eq', and_true, true_and, exists_const, List.replicate, Nat.sub_self, Nat.reduceAdd, Nat.reduceSub, if_true, if_false, Bool.false_eq_true, ite_true, ite_false, reduceIte]
      exact ⟨_, .of upd_same, _, atI_nat (j := 0) rfl, _, rfl, ⟨by decide, by decide⟩, .inl ⟨m1, k _ _ _ y SameX.upd upd_same (Int.emod_nonneg _ (by omega)) (Int.emod_lt_of_pos _ m1)⟩⟩
theorem dig_do {H0 H : Hp} {p : Addr} {m x y : Int} {Q : VK} (s : SameX p H0 H) (e : H p = some (.lst [.int x, .int y])) (m1 : 0 < m) (m2 : m < 1073741824)
    (k : ∀ H' d x' y', SameX p H0 H' → H' p = some (.lst [.int x', .int y']) → 0 ≤ d → d < m → Q (.int d) H') : spDig [.ref p, .int m] H Q E0 := ⟨p, m, x, y, rfl, e, m1, m2, fun H' d x' y' s' => k H' d x' y' (s.trans s')⟩
def spFar : Sp := fun vs H Q _ => ∃ (p : Addr) (x y : Int), vs = [.ref p] ∧ H p = some (.lst [.int x, .int y]) ∧ ∀ H' n x' y', SameX p H H' → H' p = some (.lst [.int x', .int y']) → 1 ≤ n → n ≤ 10 ^ 30 → Q (.int n) H'
abbrev N_law_far : List Str := ["_law_purl_here", "_law_figures", "_law_found", "_law_k"]
theorem sc_law_far : FnScope N_law_far ["_law_purl_here"] (defScope (top 108)) := ⟨rfl, rfl, rfl, by decide +kernel, rfl, by decide +kernel, by decide +kernel⟩
theorem F_law_far (T : TX w K mg) : Fn P w K mg base 2 "_law_far" (spFar) := by
  obtain ⟨fd, F⟩ := T.fi 44
  have nd := sc_law_far.nd
  have F_law_dig := F_law_dig (P := P) (base := base) T
  refine ⟨_, raw0 F sc_law_far (fun vs H Q E h => ?_) (fun _ _ _ _ _ _ us hl => match us, hl with | [_], _ => rfl) (fun cdv A outer s H vs Q E hr h => ?_), T.g "_law_far", F.kp⟩
  · obtain ⟨p, x, y, rfl, hp, k⟩ := h
    rfl
  · obtain ⟨p, x, y, rfl, hp, k⟩ := h
    refine ⟨_, (pss_cons (ps_if (pt_cmpR op_eq (pe_f F_law_dig hr (pa_cons (pv 0) (pa_cons (pe_int) pa_nil))) (pe_int) (nomark _)) (pss_one (ps_ret (pe_op op_add (pe_int) (pe_f F_law_dig hr (pa_cons (pv 0) (pa_cons (pe_int) pa_nil)))))) pss_nil)
    (pss_cons (ps_par (i := 1) (j := 2) (by rfl) nd rfl rfl (by decide) rfl rfl (pa_cons (pe_op op_add (pe_int) (pe_f F_law_dig hr (pa_cons (pv 0) (pa_cons (pe_int) pa_nil)))) (pa_cons (pe_int) pa_nil)) (by rfl))
    (pss_cons (ps_for PassesOwn.never rfl (pi_range1 (by rfl) (T.z "range") (pa_cons (pv 1) pa_nil)) (pg_name (i := 3) nd rfl (Or.inl rfl)) (pss_one (ps_set (i := 2) nd rfl (Or.inl rfl) (pe_op op_add (pe_op op_mul (pv 2) (pe_int)) (pe_f F_law_dig hr (pa_cons (pv 0) (pa_cons (pe_int) pa_nil)))))))
    (pss_one (ps_ret (pe_op op_add (pe_int) (pe_op op_mod (pe_callTy call_int1 (by rfl) (T.z "int") (by decide +kernel) (pa_cons (pv 2) pa_nil)) (pe_op op_pow (pe_int) (pe_int))))))))), ?_⟩
    refine seqG fun R hR => ?_
    simp only [tSeq, tRet, tRetN, tAsg, tIf, tIfS, tNext, tTest, tB, cx_K, cx_w, cx_nK, cx_nw, tOp, tUn, tVar, tC, tCons, tNil, tTup, tLst, tF, tM1, tCB, tAnd, tOr, tNot, tAndV, tOrV, tNotV, tChain, tFld, tPart, tNoPart, tSl, rU, rI0, rI, rEq, rNe, rIxD, rIxL, rIxT, rLen, rIsi, rLenQ, rTupOf, rIn, rSlL, rNewStrs, rAppend, rCat, gUnl, tDrop, wipe, List.foldl_cons, List.foldl_nil, StX.tMakeR, sFld, tLenSetN, tDictZip, rIndex, rSorted, rSortedT, rSetOfT, tPar, tPar3, tBM, rSum, rAll, rAny, tNever, gName, gTup, gCons, gNil, L2.start, List.map_cons, List.map_nil, List.length_cons, List.length_nil, List.cons_append, List.nil_append, List.set_cons_zero, List.set_cons_succ, List.getElem?_cons_zero, List.getElem?_cons_succ, Option.some.injEq, V.int.injEq, V.str.injEq, V.bl.injEq, V.ref.injEq, V.ty.injEq, List.cons.injEq, exists_and_left, exists_and_right, exists_eq_left, exists_eq_left', exists_eq, exists_eq', and_true, true_and, exists_const, List.replicate, Nat.sub_self, Nat.reduceAdd, Nat.reduceSub, if_true, if_false, Bool.false_eq_true, ite_true, ite_false, reduceIte]
    refine ⟨p, 3, x, y, rfl, hp, by decide, by decide, fun H1 d1 x1 y1 s1 e1 d10 d11 => ?_⟩
    by_cases h0 : d1 = 0
    · show scal (V.int d1) (V.int 0) = true ∧ (if decide (V.int d1 = V.int 0) = true then _ else _)
      rw [decide_eq_true (show V.int d1 = V.int 0 by rw [h0])]
      refine ⟨rfl, iteT ?_⟩
      refine ⟨p, 13, x1, y1, rfl, e1, by decide, by decide, fun H2 d2 x2 y2 s2 e2 d20 d21 => ?_⟩
      have big : (13 : Int) ≤ 10 ^ 30 := by decide
      exact ⟨_, rfl, k H2 _ x2 y2 (s1.trans s2) e2 (by omega) (by omega)⟩
    · show scal (V.int d1) (V.int 0) = true ∧ (if decide (V.int d1 = V.int 0) = true then _ else _)
      rw [decide_eq_false (show ¬ V.int d1 = V.int 0 from fun e => h0 (V.int.inj e))]
      refine ⟨rfl, iteF ?_⟩
      rw [hR]; clear hR R
      refine seqG fun R hR => ?_
      simp only [tSeq, tRet, tRetN, tAsg, tIf, tIfS, tNext, tTest, tB, cx_K, cx_w, cx_nK, cx_nw, tOp, tUn, tVar, tC, tCons, tNil, tTup, tLst, tF, tM1, tCB, tAnd, tOr, tNot, tAndV, tOrV, tNotV, tChain, tFld, tPart, tNoPart, tSl, rU, rI0, rI, rEq, rNe, rIxD, rIxL, rIxT, rLen, rIsi, rLenQ, rTupOf, rIn, rSlL, rNewStrs, rAppend, rCat, gUnl, tDrop, wipe, List.foldl_cons, List.foldl_nil, StX.tMakeR, sFld, tLenSetN, tDictZip, rIndex, rSorted, rSortedT, rSetOfT, tPar, tPar3, tBM, rSum, rAll, rAny, tNever, gName, gTup, gCons, gNil, L2.start, List.map_cons, List.map_nil, List.length_cons, List.length_nil, List.cons_append, List.nil_append, List.set_cons_zero, List.set_cons_succ, List.getElem?_cons_zero, List.getElem?_cons_succ, Option.some.injEq, V.int.injEq, V.str.injEq, V.bl.injEq, V.ref.injEq, V.ty.injEq, List.cons.injEq, exists_and_left, exists_and_right, exists_eq_left, exists_eq_left', exists_eq, exists_eq', and_true, true_and, exists_const, List.replicate, Nat.sub_self, Nat.reduceAdd, Nat.reduceSub, if_true, if_false, Bool.false_eq_true, ite_true, ite_false, reduceIte]
      refine ⟨p, 29, x1, y1, rfl, e1, by decide, by decide, fun H2 d2 x2 y2 s2 e2 d20 d21 => ⟨d2, rfl, _, _, ⟨rfl, rfl⟩, ?_⟩⟩
      rw [hR]; clear hR R
      refine seqG fun R hR => ?_
      refine forG fun F hF => ?_
      simp only [tSeq, tRet, tRetN, tAsg, tIf, tIfS, tNext, tTest, tB, cx_K, cx_w, cx_nK, cx_nw, tOp, tUn, tVar, tC, tCons, tNil, tTup, tLst, tF, tM1, tCB, tAnd, tOr, tNot, tAndV, tOrV, tNotV, tChain, tFld, tPart, tNoPart, tSl, rU, rI0, rI, rEq, rNe, rIxD, rIxL, rIxT, rLen, rIsi, rLenQ, rTupOf, rIn, rSlL, rNewStrs, rAppend, rCat, gUnl, tDrop, wipe, List.foldl_cons, List.foldl_nil, StX.tMakeR, sFld, tLenSetN, tDictZip, rIndex, rSorted, rSortedT, rSetOfT, tPar, tPar3, tBM, rSum, rAll, rAny, tNever, gName, gTup, gCons, gNil, L2.start, List.map_cons, List.map_nil, List.length_cons, List.length_nil, List.cons_append, List.nil_append, List.set_cons_zero, List.set_cons_succ, List.getElem?_cons_zero, List.getElem?_cons_succ, Option.some.injEq, V.int.injEq, V.str.injEq, V.bl.injEq, V.ref.injEq, V.ty.injEq, List.cons.injEq, exists_and_left, exists_and_right, exists_eq_left, exists_eq_left', exists_eq, exists_eq', and_true, true_and, exists_const, List.replicate, Nat.sub_self, Nat.reduceAdd, Nat.reduceSub, if_true, if_false, Bool.false_eq_true, ite_true, ite_false, reduceIte, iRng1]
      refine ⟨by omega, by omega, ?_⟩
      rw [hF]; clear hF F
      obtain ⟨Pv, hPv⟩ : ∃ Pv : Nat → L2.St → Hp → Prop, Pv = fun c σ HC => ∃ (f x y : Int) (o : Option V), σ = [some (V.ref p), some (V.int (2 + d2)), some (V.int f), o] ∧ SameX p H HC ∧ HC p = some (.lst [.int x, .int y]) := ⟨_, rfl⟩
      refine for_it walk_range Pv (by rw [hPv]; exact ⟨0, x2, y2, none, rfl, s1.trans s2, e2⟩) (fun _ _ _ _ _ => trivial) (fun c z σC HC HD hc pC yC => ?_) (fun σC HC pC => ?_)
      · rw [hPv] at pC
        obtain ⟨f, x3, y3, o, rfl, s3, e3⟩ := pC
        obtain ⟨rfl, rfl⟩ := yC
        simp only [tSeq, tRet, tRetN, tAsg, tIf, tIfS, tNext, tTest, tB, cx_K, cx_w, cx_nK, cx_nw, tOp, tUn, tVar, tC, tCons, tNil, tTup, tLst, tF, tM1, tCB, tAnd, tOr, tNot, tAndV, tOrV, tNotV, tChain, tFld, tPart, tNoPart, tSl, rU, rI0, rI, rEq, rNe, rIxD, rIxL, rIxT, rLen, rIsi, rLenQ, rTupOf, rIn, rSlL, rNewStrs, rAppend, rCat, gUnl, tDrop, wipe, List.foldl_cons, List.foldl_nil, StX.tMakeR, sFld, tLenSetN, tDictZip, rIndex, rSorted, rSortedT, rSetOfT, tPar, tPar3, tBM, rSum, rAll, rAny, tNever, gName, gTup, gCons, gNil, L2.start, List.map_cons, List.map_nil, List.length_cons, List.length_nil, List.cons_append, List.nil_append, List.set_cons_zero, List.set_cons_succ, List.getElem?_cons_zero, List.getElem?_cons_succ, Option.some.injEq, V.int.injEq, V.str.injEq, V.bl.injEq, V.ref.injEq, V.ty.injEq, List.cons.injEq, exists_and_left, exists_and_right, exists_eq_left, exists_eq_left', exists_eq, exists_eq', and_true, true_and, exists_const, List.replicate, Nat.sub_self, Nat.reduceAdd, Nat.reduceSub, if_true, if_false, Bool.false_eq_true, ite_true, ite_false, reduceIte]
        refine ⟨.inr ⟨by decide, by decide⟩, dig_do s3 e3 (by decide) (by decide) fun H4 d4 x4 y4 s4 e4 _ _ => ⟨d4, rfl, ?_⟩⟩
        rw [hPv]
        exact ⟨_, x4, y4, _, rfl, s4, e4⟩
      · rw [hPv] at pC
        obtain ⟨f, x3, y3, o, rfl, s3, e3⟩ := pC
        show R _ _
        rw [hR]; clear hR R
        simp only [tSeq, tRet, tRetN, tAsg, tIf, tIfS, tNext, tTest, tB, cx_K, cx_w, cx_nK, cx_nw, tOp, tUn, tVar, tC, tCons, tNil, tTup, tLst, tF, tM1, tCB, tAnd, tOr, tNot, tAndV, tOrV, tNotV, tChain, tFld, tPart, tNoPart, tSl, rU, rI0, rI, rEq, rNe, rIxD, rIxL, rIxT, rLen, rIsi, rLenQ, rTupOf, rIn, rSlL, rNewStrs, rAppend, rCat, gUnl, tDrop, wipe, List.foldl_cons, List.foldl_nil, StX.tMakeR, sFld, tLenSetN, tDictZip, rIndex, rSorted, rSortedT, rSetOfT, tPar, tPar3, tBM, rSum, rAll, rAny, tNever, gName, gTup, gCons, gNil, L2.start, List.map_cons, List.map_nil, List.length_cons, List.length_nil, List.cons_append, List.nil_append, List.set_cons_zero, List.set_cons_succ, List.getElem?_cons_zero, List.getElem?_cons_succ, Option.some.injEq, V.int.injEq, V.str.injEq, V.bl.injEq, V.ref.injEq, V.ty.injEq, List.cons.injEq, exists_and_left, exists_and_right, exists_eq_left, exists_eq_left', exists_eq, exists_eq', and_true, true_and, exists_const, List.replicate, Nat.sub_self, Nat.reduceAdd, Nat.reduceSub, if_true, if_false, Bool.false_eq_true, ite_true, ite_false, reduceIte]
        have b1 : 0 ≤ f % 10 ^ Int.toNat 30 := Int.emod_nonneg _ (by decide)
        have b2 : f % 10 ^ Int.toNat 30 < 10 ^ Int.toNat 30 := Int.emod_lt_of_pos _ (by decide)
        have b3 : (10 : Int) ^ Int.toNat 30 = 10 ^ 30 := by decide
        rw [b3] at b2
        refine .inl ⟨⟨by decide, by decide, by decide⟩, by decide, k HC _ x3 y3 s3 e3 ?_ ?_⟩
        · omega
        · rw [b3]
          rw [b3] at b1
          omega
def spSpot : Sp := fun vs H Q _ => ∃ (p : Addr) (n x y : Int), vs = [.ref p, .int n] ∧ H p = some (.lst [.int x, .int y]) ∧ 1 ≤ n ∧ ∀ H' t i j, SameX p H H' → CellAt H' t (i, j) → 0 ≤ i → i < n → 0 ≤ j → j < n → Q (.ref t) H'
abbrev N_law_spot : List Str := ["_law_purl_here", "_law_size", "_law_kind", "_law_row", "_law_column"]
theorem sc_law_spot : FnScope N_law_spot ["_law_purl_here", "_law_size"] (defScope (top 109)) := ⟨rfl, rfl, rfl, by decide +kernel, rfl, by decide +kernel, by decide +kernel⟩
theorem F_law_spot (T : TX w K mg) : Fn P w K mg base 2 "_law_spot" (spSpot) := by
  obtain ⟨fd, F⟩ := T.fi 45
  have nd := sc_law_spot.nd
  have F_law_dig := F_law_dig (P := P) (base := base) T
  refine ⟨_, raw0 F sc_law_spot (fun vs H Q E h => ?_) (fun _ _ _ _ _ _ us hl => match us, hl with | [_, _], _ => rfl) (fun cdv A outer s H vs Q E hr h => ?_), T.g "_law_spot", F.kp⟩
  · obtain ⟨p, n, x, y, rfl, hp, hn, k⟩ := h
    rfl
  · obtain ⟨p, n, x, y, rfl, hp, hn, k⟩ := h
    refine ⟨_, (pss_cons (ps_set (i := 2) nd rfl (Or.inl rfl) (pe_f F_law_dig hr (pa_cons (pv 0) (pa_cons (pe_int) pa_nil))))
    (pss_cons (ps_set (i := 3) nd rfl (Or.inl rfl) (pe_op op_mod (pe_callTy call_int1 (by rfl) (T.z "int") (by decide +kernel) (pa_cons (pe_op op_add (pe_op op_mul (pe_f F_law_dig hr (pa_cons (pv 0) (pa_cons (pe_int) pa_nil))) (pe_op op_pow (pe_int) (pe_int))) (pe_f F_law_dig hr (pa_cons (pv 0) (pa_cons (pe_int) pa_nil)))) pa_nil)) (pv 1)))
    (pss_cons (ps_set (i := 4) nd rfl (Or.inl rfl) (pe_op op_mod (pe_callTy call_int1 (by rfl) (T.z "int") (by decide +kernel) (pa_cons (pe_op op_add (pe_op op_mul (pe_f F_law_dig hr (pa_cons (pv 0) (pa_cons (pe_int) pa_nil))) (pe_op op_pow (pe_int) (pe_int))) (pe_f F_law_dig hr (pa_cons (pv 0) (pa_cons (pe_int) pa_nil)))) pa_nil)) (pv 1)))
    (pss_cons (ps_if (pt_cmpR op_eq (pv 2) (pe_int) (nomark _)) (pss_one (ps_par (i := 3) (j := 4) (by rfl) nd rfl rfl (by decide) rfl rfl (pa_cons (pe_op op_mod (pe_callTy call_int1 (by rfl) (T.z "int") (by decide +kernel) (pa_cons (pe_f F_law_dig hr (pa_cons (pv 0) (pa_cons (pe_int) pa_nil))) pa_nil)) (pv 1)) (pa_cons (pe_op op_mod (pe_callTy call_int1 (by rfl) (T.z "int") (by decide +kernel) (pa_cons (pe_f F_law_dig hr (pa_cons (pv 0) (pa_cons (pe_int) pa_nil))) pa_nil)) (pv 1)) pa_nil)) (by rfl))) pss_nil)
    (pss_cons (ps_if (pt_cmpR op_eq (pv 2) (pe_int) (nomark _)) (pss_cons (ps_set (i := 3) nd rfl (Or.inl rfl) (pe_op op_mod (pe_callTy call_int1 (by rfl) (T.z "int") (by decide +kernel) (pa_cons (pe_op op_add (pe_op op_fdivN (pv 1) (pe_int)) (pe_f F_law_dig hr (pa_cons (pv 0) (pa_cons (pe_int) pa_nil)))) pa_nil)) (pv 1)))
    (pss_one (ps_set (i := 4) nd rfl (Or.inl rfl) (pe_op op_mod (pe_callTy call_int1 (by rfl) (T.z "int") (by decide +kernel) (pa_cons (pe_op op_add (pe_op op_fdivN (pv 1) (pe_int)) (pe_f F_law_dig hr (pa_cons (pv 0) (pa_cons (pe_int) pa_nil)))) pa_nil)) (pv 1))))) pss_nil)
    (pss_cons (ps_if (pt_cmpR op_eq (pv 2) (pe_int) (nomark _)) (pss_one (ps_set (i := 4) nd rfl (Or.inl rfl) (pe_op op_mod (pe_callTy call_int1 (by rfl) (T.z "int") (by decide +kernel) (pa_cons (pe_op op_add (pv 3) (pe_f F_law_dig hr (pa_cons (pv 0) (pa_cons (pe_int) pa_nil)))) pa_nil)) (pv 1)))) pss_nil)
    (pss_cons (ps_if (pt_cmpR op_eq (pe_f F_law_dig hr (pa_cons (pv 0) (pa_cons (pe_int) pa_nil))) (pe_int) (nomark _)) (pss_one (ps_set (i := 3) nd rfl (Or.inl rfl) (pe_op op_sub (pe_op op_sub (pv 1) (pe_int)) (pv 3)))) pss_nil)
    (pss_one (ps_ret (pe_tup (pa_cons (pv 3) (pa_cons (pv 4) pa_nil)))))))))))), ?_⟩
    refine seqG fun R hR => ?_
    simp only [tSeq, tRet, tRetN, tAsg, tIf, tIfS, tNext, tTest, tB, cx_K, cx_w, cx_nK, cx_nw, tOp, tUn, tVar, tC, tCons, tNil, tTup, tLst, tF, tM1, tCB, tAnd, tOr, tNot, tAndV, tOrV, tNotV, tChain, tFld, tPart, tNoPart, tSl, rU, rI0, rI, rEq, rNe, rIxD, rIxL, rIxT, rLen, rIsi, rLenQ, rTupOf, rIn, rSlL, rNewStrs, rAppend, rCat, gUnl, tDrop, wipe, List.foldl_cons, List.foldl_nil, StX.tMakeR, sFld, tLenSetN, tDictZip, rIndex, rSorted, rSortedT, rSetOfT, tPar, tPar3, tBM, rSum, rAll, rAny, tNever, gName, gTup, gCons, gNil, L2.start, List.map_cons, List.map_nil, List.length_cons, List.length_nil, List.cons_append, List.nil_append, List.set_cons_zero, List.set_cons_succ, List.getElem?_cons_zero, List.getElem?_cons_succ, Option.some.injEq, V.int.injEq, V.str.injEq, V.bl.injEq, V.ref.injEq, V.ty.injEq, List.cons.injEq, exists_and_left, exists_and_right, exists_eq_left, exists_eq_left', exists_eq, exists_eq', and_true, true_and, exists_const, List.replicate, Nat.sub_self, Nat.reduceAdd, Nat.reduceSub, if_true, if_false, Bool.false_eq_true, ite_true, ite_false, reduceIte]
    refine ⟨p, 4, x, y, rfl, hp, by decide, by decide, fun H1 kd x1 y1 s1 e1 d10 d11 => ?_⟩
    have hn0 : 0 < n := by omega
    rw [hR]; clear hR R
    refine seqG fun R hR => ?_
    simp only [tSeq, tRet, tRetN, tAsg, tIf, tIfS, tNext, tTest, tB, cx_K, cx_w, cx_nK, cx_nw, tOp, tUn, tVar, tC, tCons, tNil, tTup, tLst, tF, tM1, tCB, tAnd, tOr, tNot, tAndV, tOrV, tNotV, tChain, tFld, tPart, tNoPart, tSl, rU, rI0, rI, rEq, rNe, rIxD, rIxL, rIxT, rLen, rIsi, rLenQ, rTupOf, rIn, rSlL, rNewStrs, rAppend, rCat, gUnl, tDrop, wipe, List.foldl_cons, List.foldl_nil, StX.tMakeR, sFld, tLenSetN, tDictZip, rIndex, rSorted, rSortedT, rSetOfT, tPar, tPar3, tBM, rSum, rAll, rAny, tNever, gName, gTup, gCons, gNil, L2.start, List.map_cons, List.map_nil, List.length_cons, List.length_nil, List.cons_append, List.nil_append, List.set_cons_zero, List.set_cons_succ, List.getElem?_cons_zero, List.getElem?_cons_succ, Option.some.injEq, V.int.injEq, V.str.injEq, V.bl.injEq, V.ref.injEq, V.ty.injEq, List.cons.injEq, exists_and_left, exists_and_right, exists_eq_left, exists_eq_left', exists_eq, exists_eq', and_true, true_and, exists_const, List.replicate, Nat.sub_self, Nat.reduceAdd, Nat.reduceSub, if_true, if_false, Bool.false_eq_true, ite_true, ite_false, reduceIte]
    refine ⟨p, 1000003, x1, y1, rfl, e1, by decide, by decide, fun H2 a2 x2 y2 s2 e2 a20 a21 => ⟨⟨by decide, by decide, by decide⟩, a2, rfl, .inl ⟨by omega, by omega⟩, p, 1000003, x2, y2, rfl, e2, by decide, by decide, fun H3 b3 x3 y3 s3 e3 b30 b31 => ⟨b3, rfl, .inl ⟨hn0, ?_⟩⟩⟩⟩
    have r1 : 0 ≤ (a2 * 10 ^ Int.toNat 25 + b3) % n := Int.emod_nonneg _ (by omega)
    have r2 : (a2 * 10 ^ Int.toNat 25 + b3) % n < n := Int.emod_lt_of_pos _ hn0
    generalize (a2 * 10 ^ Int.toNat 25 + b3) % n = row at r1 r2 ⊢
    rw [hR]; clear hR R
    refine seqG fun R hR => ?_
    simp only [tSeq, tRet, tRetN, tAsg, tIf, tIfS, tNext, tTest, tB, cx_K, cx_w, cx_nK, cx_nw, tOp, tUn, tVar, tC, tCons, tNil, tTup, tLst, tF, tM1, tCB, tAnd, tOr, tNot, tAndV, tOrV, tNotV, tChain, tFld, tPart, tNoPart, tSl, rU, rI0, rI, rEq, rNe, rIxD, rIxL, rIxT, rLen, rIsi, rLenQ, rTupOf, rIn, rSlL, rNewStrs, rAppend, rCat, gUnl, tDrop, wipe, List.foldl_cons, List.foldl_nil, StX.tMakeR, sFld, tLenSetN, tDictZip, rIndex, rSorted, rSortedT, rSetOfT, tPar, tPar3, tBM, rSum, rAll, rAny, tNever, gName, gTup, gCons, gNil, L2.start, List.map_cons, List.map_nil, List.length_cons, List.length_nil, List.cons_append, List.nil_append, List.set_cons_zero, List.set_cons_succ, List.getElem?_cons_zero, List.getElem?_cons_succ, Option.some.injEq, V.int.injEq, V.str.injEq, V.bl.injEq, V.ref.injEq, V.ty.injEq, List.cons.injEq, exists_and_left, exists_and_right, exists_eq_left, exists_eq_left', exists_eq, exists_eq', and_true, true_and, exists_const, List.replicate, Nat.sub_self, Nat.reduceAdd, Nat.reduceSub, if_true, if_false, Bool.false_eq_true, ite_true, ite_false, reduceIte]
    refine ⟨p, 1000003, x3, y3, rfl, e3, by decide, by decide, fun H4 a4 x4 y4 s4 e4 a40 a41 => ⟨⟨by decide, by decide, by decide⟩, a4, rfl, .inl ⟨by omega, by omega⟩, p, 1000003, x4, y4, rfl, e4, by decide, by decide, fun H5 b5 x5 y5 s5 e5 b50 b51 => ⟨b5, rfl, .inl ⟨hn0, ?_⟩⟩⟩⟩
    have q1 : 0 ≤ (a4 * 10 ^ Int.toNat 25 + b5) % n := Int.emod_nonneg _ (by omega)
    have q2 : (a4 * 10 ^ Int.toNat 25 + b5) % n < n := Int.emod_lt_of_pos _ hn0
    generalize (a4 * 10 ^ Int.toNat 25 + b5) % n = col at q1 q2 ⊢
    have s15 := s1.trans (s2.trans (s3.trans (s4.trans s5)))
    clear s1 s2 s3 s4 s5 e1 e2 e3 e4
    rw [hR]; clear hR R
    refine seqG fun R hR => ?_
    have md : ∀ z : Int, 0 ≤ z % n ∧ z % n < n := fun z => ⟨Int.emod_nonneg _ (by omega), Int.emod_lt_of_pos _ hn0⟩
    have key : ∀ H6 row col x y, SameX p H H6 → H6 p = some (.lst [.int x, .int y]) → 0 ≤ row → row < n → 0 ≤ col → col < n → R [some (V.ref p), some (V.int n), some (V.int kd), some (V.int row), some (V.int col)] H6 := by
      intro H6 row col x y s6 e6 r1 r2 q1 q2
      rw [hR]; clear hR R
      refine seqG fun R hR => ?_
      have key : ∀ H6 row col x y, SameX p H H6 → H6 p = some (.lst [.int x, .int y]) → 0 ≤ row → row < n → 0 ≤ col → col < n → R [some (V.ref p), some (V.int n), some (V.int kd), some (V.int row), some (V.int col)] H6 := by
        intro H6 row col x y s6 e6 r1 r2 q1 q2
        rw [hR]; clear hR R
        refine seqG fun R hR => ?_
        have key : ∀ H6 row col x y, SameX p H H6 → H6 p = some (.lst [.int x, .int y]) → 0 ≤ row → row < n → 0 ≤ col → col < n → R [some (V.ref p), some (V.int n), some (V.int kd), some (V.int row), some (V.int col)] H6 := by
          intro H6 row col x y s6 e6 r1 r2 q1 q2
          rw [hR]; clear hR R
          refine seqG fun R hR => ?_
          have key : ∀ H6 row col, SameX p H H6 → 0 ≤ row → row < n → 0 ≤ col → col < n → R [some (V.ref p), some (V.int n), some (V.int kd), some (V.int row), some (V.int col)] H6 := by
            intro H6 row col s6 r1 r2 q1 q2
            rw [hR]; clear hR R
            simp only [tSeq, tRet, tRetN, tAsg, tIf, tIfS, tNext, tTest, tB, cx_K, cx_w, cx_nK, cx_nw, tOp, tUn, tVar, tC, tCons, tNil, tTup, tLst, tF, tM1, tCB, tAnd, tOr, tNot, tAndV, tOrV, tNotV, tChain, tFld, tPart, tNoPart, tSl, rU, rI0, rI, rEq, rNe, rIxD, rIxL, rIxT, rLen, rIsi, rLenQ, rTupOf, rIn, rSlL, rNewStrs, rAppend, rCat, gUnl, tDrop, wipe, List.foldl_cons, List.foldl_nil, StX.tMakeR, sFld, tLenSetN, tDictZip, rIndex, rSorted, rSortedT, rSetOfT, tPar, tPar3, tBM, rSum, rAll, rAny, tNever, gName, gTup, gCons, gNil, L2.start, List.map_cons, List.map_nil, List.length_cons, List.length_nil, List.cons_append, List.nil_append, List.set_cons_zero, List.set_cons_succ, List.getElem?_cons_zero, List.getElem?_cons_succ, Option.some.injEq, V.int.injEq, V.str.injEq, V.bl.injEq, V.ref.injEq, V.ty.injEq, List.cons.injEq, exists_and_left, exists_and_right, exists_eq_left, exists_eq_left', exists_eq, exists_eq', and_true, true_and, exists_const, List.replicate, Nat.sub_self, Nat.reduceAdd, Nat.reduceSub, if_true, if_false, Bool.false_eq_true, ite_true, ite_false, reduceIte]
            exact ⟨by rw [sizeLine_eq]; decide, fun t ht => k _ t row col (s6.trans (SameX.of (Same.upd (Same.refl _) ht))) upd_same r1 r2 q1 q2⟩
          simp only [tSeq, tRet, tRetN, tAsg, tIf, tIfS, tNext, tTest, tB, cx_K, cx_w, cx_nK, cx_nw, tOp, tUn, tVar, tC, tCons, tNil, tTup, tLst, tF, tM1, tCB, tAnd, tOr, tNot, tAndV, tOrV, tNotV, tChain, tFld, tPart, tNoPart, tSl, rU, rI0, rI, rEq, rNe, rIxD, rIxL, rIxT, rLen, rIsi, rLenQ, rTupOf, rIn, rSlL, rNewStrs, rAppend, rCat, gUnl, tDrop, wipe, List.foldl_cons, List.foldl_nil, StX.tMakeR, sFld, tLenSetN, tDictZip, rIndex, rSorted, rSortedT, rSetOfT, tPar, tPar3, tBM, rSum, rAll, rAny, tNever, gName, gTup, gCons, gNil, L2.start, List.map_cons, List.map_nil, List.length_cons, List.length_nil, List.cons_append, List.nil_append, List.set_cons_zero, List.set_cons_succ, List.getElem?_cons_zero, List.getElem?_cons_succ, Option.some.injEq, V.int.injEq, V.str.injEq, V.bl.injEq, V.ref.injEq, V.ty.injEq, List.cons.injEq, exists_and_left, exists_and_right, exists_eq_left, exists_eq_left', exists_eq, exists_eq', and_true, true_and, exists_const, List.replicate, Nat.sub_self, Nat.reduceAdd, Nat.reduceSub, if_true, if_false, Bool.false_eq_true, ite_true, ite_false, reduceIte]
          refine dig_do s6 e6 (by decide) (by decide) fun H7 a7 x7 y7 s7 e7 _ _ => ?_
          show scal (V.int a7) (V.int 0) = true ∧ (if decide (V.int a7 = V.int 0) = true then _ else _)
          refine ⟨rfl, ?_⟩
          by_cases h0 : a7 = 0
          · rw [decide_eq_true (show V.int a7 = V.int 0 by rw [h0])]
            exact iteT (key H7 _ _ s7 (by omega) (by omega) q1 q2)
          · rw [decide_eq_false (show ¬ V.int a7 = V.int 0 from fun e => h0 (V.int.inj e))]
            exact iteF (key H7 _ _ s7 r1 r2 q1 q2)
        simp only [tSeq, tRet, tRetN, tAsg, tIf, tIfS, tNext, tTest, tB, cx_K, cx_w, cx_nK, cx_nw, tOp, tUn, tVar, tC, tCons, tNil, tTup, tLst, tF, tM1, tCB, tAnd, tOr, tNot, tAndV, tOrV, tNotV, tChain, tFld, tPart, tNoPart, tSl, rU, rI0, rI, rEq, rNe, rIxD, rIxL, rIxT, rLen, rIsi, rLenQ, rTupOf, rIn, rSlL, rNewStrs, rAppend, rCat, gUnl, tDrop, wipe, List.foldl_cons, List.foldl_nil, StX.tMakeR, sFld, tLenSetN, tDictZip, rIndex, rSorted, rSortedT, rSetOfT, tPar, tPar3, tBM, rSum, rAll, rAny, tNever, gName, gTup, gCons, gNil, L2.start, List.map_cons, List.map_nil, List.length_cons, List.length_nil, List.cons_append, List.nil_append, List.set_cons_zero, List.set_cons_succ, List.getElem?_cons_zero, List.getElem?_cons_succ, Option.some.injEq, V.int.injEq, V.str.injEq, V.bl.injEq, V.ref.injEq, V.ty.injEq, List.cons.injEq, exists_and_left, exists_and_right, exists_eq_left, exists_eq_left', exists_eq, exists_eq', and_true, true_and, exists_const, List.replicate, Nat.sub_self, Nat.reduceAdd, Nat.reduceSub, if_true, if_false, Bool.false_eq_true, ite_true, ite_false, reduceIte]
        refine ⟨rfl, ?_⟩
        by_cases h0 : kd = 2
        · rw [decide_eq_true h0]
          refine iteT (dig_do s6 e6 (by decide) (by decide) fun H7 a7 x7 y7 s7 e7 _ _ => ⟨a7, rfl, .inl ⟨hn0, ?_⟩⟩)
          exact key H7 _ _ x7 y7 s7 e7 r1 r2 (md _).1 (md _).2
        · rw [decide_eq_false h0]
          exact iteF (key H6 row col x y s6 e6 r1 r2 q1 q2)
      simp only [tSeq, tRet, tRetN, tAsg, tIf, tIfS, tNext, tTest, tB, cx_K, cx_w, cx_nK, cx_nw, tOp, tUn, tVar, tC, tCons, tNil, tTup, tLst, tF, tM1, tCB, tAnd, tOr, tNot, tAndV, tOrV, tNotV, tChain, tFld, tPart, tNoPart, tSl, rU, rI0, rI, rEq, rNe, rIxD, rIxL, rIxT, rLen, rIsi, rLenQ, rTupOf, rIn, rSlL, rNewStrs, rAppend, rCat, gUnl, tDrop, wipe, List.foldl_cons, List.foldl_nil, StX.tMakeR, sFld, tLenSetN, tDictZip, rIndex, rSorted, rSortedT, rSetOfT, tPar, tPar3, tBM, rSum, rAll, rAny, tNever, gName, gTup, gCons, gNil, L2.start, List.map_cons, List.map_nil, List.length_cons, List.length_nil, List.cons_append, List.nil_append, List.set_cons_zero, List.set_cons_succ, List.getElem?_cons_zero, List.getElem?_cons_succ, Option.some.injEq, V.int.injEq, V.str.injEq, V.bl.injEq, V.ref.injEq, V.ty.injEq, List.cons.injEq, exists_and_left, exists_and_right, exists_eq_left, exists_eq_left', exists_eq, exists_eq', and_true, true_and, exists_const, List.replicate, Nat.sub_self, Nat.reduceAdd, Nat.reduceSub, if_true, if_false, Bool.false_eq_true, ite_true, ite_false, reduceIte]
      refine ⟨rfl, ?_⟩
      by_cases h0 : kd = 1
      · rw [decide_eq_true h0]
        refine iteT ⟨⟨by decide, by decide⟩, dig_do s6 e6 (by decide) (by decide) fun H7 a7 x7 y7 s7 e7 _ _ => ⟨a7, rfl, .inl ⟨hn0, ⟨by decide, by decide⟩, dig_do s7 e7 (by decide) (by decide) fun H8 a8 x8 y8 s8 e8 _ _ => ⟨a8, rfl, .inl ⟨hn0, ?_⟩⟩⟩⟩⟩
        exact key H8 _ _ x8 y8 s8 e8 (md _).1 (md _).2 (md _).1 (md _).2
      · rw [decide_eq_false h0]
        exact iteF (key H6 row col x y s6 e6 r1 r2 q1 q2)
    simp only [tSeq, tRet, tRetN, tAsg, tIf, tIfS, tNext, tTest, tB, cx_K, cx_w, cx_nK, cx_nw, tOp, tUn, tVar, tC, tCons, tNil, tTup, tLst, tF, tM1, tCB, tAnd, tOr, tNot, tAndV, tOrV, tNotV, tChain, tFld, tPart, tNoPart, tSl, rU, rI0, rI, rEq, rNe, rIxD, rIxL, rIxT, rLen, rIsi, rLenQ, rTupOf, rIn, rSlL, rNewStrs, rAppend, rCat, gUnl, tDrop, wipe, List.foldl_cons, List.foldl_nil, StX.tMakeR, sFld, tLenSetN, tDictZip, rIndex, rSorted, rSortedT, rSetOfT, tPar, tPar3, tBM, rSum, rAll, rAny, tNever, gName, gTup, gCons, gNil, L2.start, List.map_cons, List.map_nil, List.length_cons, List.length_nil, List.cons_append, List.nil_append, List.set_cons_zero, List.set_cons_succ, List.getElem?_cons_zero, List.getElem?_cons_succ, Option.some.injEq, V.int.injEq, V.str.injEq, V.bl.injEq, V.ref.injEq, V.ty.injEq, List.cons.injEq, exists_and_left, exists_and_right, exists_eq_left, exists_eq_left', exists_eq, exists_eq', and_true, true_and, exists_const, List.replicate, Nat.sub_self, Nat.reduceAdd, Nat.reduceSub, if_true, if_false, Bool.false_eq_true, ite_true, ite_false, reduceIte]
    refine ⟨rfl, ?_⟩
    by_cases h0 : kd = 0
    · rw [decide_eq_true h0]
      refine iteT (dig_do s15 e5 (by decide) (by decide) fun H6 a6 x6 y6 s6 e6 _ _ => .inl ⟨a6, rfl, hn0, dig_do s6 e6 (by decide) (by decide) fun H7 a7 x7 y7 s7 e7 _ _ => .inl ⟨a7, rfl, hn0, _, _, ⟨rfl, rfl⟩, ?_⟩⟩)
      exact key H7 _ _ x7 y7 s7 e7 (md _).1 (md _).2 (md _).1 (md _).2
    · rw [decide_eq_false h0]
      exact iteF (key H5 row col x5 y5 s15 e5 r1 r2 q1 q2)
theorem cell_new {H : Hp} {p : Addr} {i j : Int} (hp : H p = none) : Same H (upd H p (.tup [V.int i, V.int j])) ∧ CellAt (upd H p (.tup [V.int i, V.int j])) p (i, j) := ⟨Same.upd (Same.refl H) hp, upd_same⟩
/-- the cells of the eight places -/
def lawCells (n i j : Int) : List Cell := [(i, j), (j, i), (i, n - 1 - j), (n - 1 - j, i), (n - 1 - i, j), (j, n - 1 - i), (n - 1 - i, n - 1 - j), (n - 1 - j, n - 1 - i)]
def spLawCells : Sp := fun vs H Q _ => ∃ (n i j : Int), vs = [.int n, .int i, .int j] ∧ ∀ H' t (ps : List (Addr × Cell)), Same H H' → H' t = some (.lst (ps.map fun p => V.ref p.1)) → (∀ p ∈ ps, CellAt H' p.1 p.2) → ps.map (·.2) = lawCells n i j → Q (.ref t) H'
abbrev N_law_cells : List Str := ["_law_size", "_law_row", "_law_column", "_law_far_here", "_law_off", "_law_found"]
theorem sc_law_cells : FnScope N_law_cells ["_law_size", "_law_row", "_law_column"] (defScope (top 110)) := ⟨rfl, rfl, rfl, by decide +kernel, rfl, by decide +kernel, by decide +kernel⟩
theorem F_law_cells (T : TX w K mg) : Fn P w K mg base 1 "_law_cells" (spLawCells) := by
  obtain ⟨fd, F⟩ := T.fi 46
  have nd := sc_law_cells.nd
  refine ⟨_, raw0 F sc_law_cells (fun vs H Q E h => ?_) (fun _ _ _ _ _ _ us hl => match us, hl with | [_, _, _], _ => rfl) (fun cdv A outer s H vs Q E hr h => ?_), T.g "_law_cells", F.kp⟩
  · obtain ⟨n, i, j, rfl, k⟩ := h
    rfl
  · obtain ⟨n, i, j, rfl, k⟩ := h
    refine ⟨_, (pss_cons (ps_par (i := 3) (j := 4) (by rfl) nd rfl rfl (by decide) rfl rfl (pa_cons (pe_op op_sub (pe_op op_sub (pv 0) (pe_int)) (pv 1)) (pa_cons (pe_op op_sub (pe_op op_sub (pv 0) (pe_int)) (pv 2)) pa_nil)) (by rfl))
    (pss_cons (ps_set (i := 5) nd rfl (Or.inl rfl) (pe_lst (pa_cons (pe_tup (pa_cons (pv 1) (pa_cons (pv 2) pa_nil))) (pa_cons (pe_tup (pa_cons (pv 2) (pa_cons (pv 1) pa_nil))) (pa_cons (pe_tup (pa_cons (pv 1) (pa_cons (pv 4) pa_nil))) (pa_cons (pe_tup (pa_cons (pv 4) (pa_cons (pv 1) pa_nil))) (pa_cons (pe_tup (pa_cons (pv 3) (pa_cons (pv 2) pa_nil))) (pa_cons (pe_tup (pa_cons (pv 2) (pa_cons (pv 3) pa_nil))) (pa_cons (pe_tup (pa_cons (pv 3) (pa_cons (pv 4) pa_nil))) pa_nil)))))))))
    (pss_one (ps_ret (pe_op op_cat (pv 5) (pe_lst (pa_cons (pe_tup (pa_cons (pv 4) (pa_cons (pv 3) pa_nil))) pa_nil))))))), ?_⟩
    refine seqG fun R hR => ?_
    simp only [tSeq, tRet, tRetN, tAsg, tIf, tIfS, tNext, tTest, tB, cx_K, cx_w, cx_nK, cx_nw, tOp, tUn, tVar, tC, tCons, tNil, tTup, tLst, tF, tM1, tCB, tAnd, tOr, tNot, tAndV, tOrV, tNotV, tChain, tFld, tPart, tNoPart, tSl, rU, rI0, rI, rEq, rNe, rIxD, rIxL, rIxT, rLen, rIsi, rLenQ, rTupOf, rIn, rSlL, rNewStrs, rAppend, rCat, gUnl, tDrop, wipe, List.foldl_cons, List.foldl_nil, StX.tMakeR, sFld, tLenSetN, tDictZip, rIndex, rSorted, rSortedT, rSetOfT, tPar, tPar3, tBM, rSum, rAll, rAny, tNever, gName, gTup, gCons, gNil, L2.start, List.map_cons, List.map_nil, List.length_cons, List.length_nil, List.cons_append, List.nil_append, List.set_cons_zero, List.set_cons_succ, List.getElem?_cons_zero, List.getElem?_cons_succ, Option.some.injEq, V.int.injEq, V.str.injEq, V.bl.injEq, V.ref.injEq, V.ty.injEq, List.cons.injEq, exists_and_left, exists_and_right, exists_eq_left, exists_eq_left', exists_eq, exists_eq', and_true, true_and, exists_const, List.replicate, Nat.sub_self, Nat.reduceAdd, Nat.reduceSub, if_true, if_false, Bool.false_eq_true, ite_true, ite_false, reduceIte]
    refine ⟨_, _, ⟨rfl, rfl⟩, ?_⟩
    rw [hR]; clear hR R
    refine seqG fun R hR => ?_
    simp only [tSeq, tRet, tRetN, tAsg, tIf, tIfS, tNext, tTest, tB, cx_K, cx_w, cx_nK, cx_nw, tOp, tUn, tVar, tC, tCons, tNil, tTup, tLst, tF, tM1, tCB, tAnd, tOr, tNot, tAndV, tOrV, tNotV, tChain, tFld, tPart, tNoPart, tSl, rU, rI0, rI, rEq, rNe, rIxD, rIxL, rIxT, rLen, rIsi, rLenQ, rTupOf, rIn, rSlL, rNewStrs, rAppend, rCat, gUnl, tDrop, wipe, List.foldl_cons, List.foldl_nil, StX.tMakeR, sFld, tLenSetN, tDictZip, rIndex, rSorted, rSortedT, rSetOfT, tPar, tPar3, tBM, rSum, rAll, rAny, tNever, gName, gTup, gCons, gNil, L2.start, List.map_cons, List.map_nil, List.length_cons, List.length_nil, List.cons_append, List.nil_append, List.set_cons_zero, List.set_cons_succ, List.getElem?_cons_zero, List.getElem?_cons_succ, Option.some.injEq, V.int.injEq, V.str.injEq, V.bl.injEq, V.ref.injEq, V.ty.injEq, List.cons.injEq, exists_and_left, exists_and_right, exists_eq_left, exists_eq_left', exists_eq, exists_eq', and_true, true_and, exists_const, List.replicate, Nat.sub_self, Nat.reduceAdd, Nat.reduceSub, if_true, if_false, Bool.false_eq_true, ite_true, ite_false, reduceIte]
    refine ⟨by rw [sizeLine_eq]; decide, fun p0 h0 => ?_⟩
    obtain ⟨t0, c0⟩ := cell_new (i := i) (j := j) h0
    generalize upd H p0 (.tup [V.int (i), V.int (j)]) = H0 at t0 c0 ⊢
    refine ⟨by rw [sizeLine_eq]; decide, fun p1 h1 => ?_⟩
    obtain ⟨t1, c1⟩ := cell_new (i := j) (j := i) h1
    generalize upd H0 p1 (.tup [V.int (j), V.int (i)]) = H1 at t1 c1 ⊢
    have c0 := t1 _ _ c0
    refine ⟨by rw [sizeLine_eq]; decide, fun p2 h2 => ?_⟩
    obtain ⟨t2, c2⟩ := cell_new (i := i) (j := n - 1 - j) h2
    generalize upd H1 p2 (.tup [V.int (i), V.int (n - 1 - j)]) = H2 at t2 c2 ⊢
    have c0 := t2 _ _ c0
    have c1 := t2 _ _ c1
    refine ⟨by rw [sizeLine_eq]; decide, fun p3 h3 => ?_⟩
    obtain ⟨t3, c3⟩ := cell_new (i := n - 1 - j) (j := i) h3
    generalize upd H2 p3 (.tup [V.int (n - 1 - j), V.int (i)]) = H3 at t3 c3 ⊢
    have c0 := t3 _ _ c0
    have c1 := t3 _ _ c1
    have c2 := t3 _ _ c2
    refine ⟨by rw [sizeLine_eq]; decide, fun p4 h4 => ?_⟩
    obtain ⟨t4, c4⟩ := cell_new (i := n - 1 - i) (j := j) h4
    generalize upd H3 p4 (.tup [V.int (n - 1 - i), V.int (j)]) = H4 at t4 c4 ⊢
    have c0 := t4 _ _ c0
    have c1 := t4 _ _ c1
    have c2 := t4 _ _ c2
    have c3 := t4 _ _ c3
    refine ⟨by rw [sizeLine_eq]; decide, fun p5 h5 => ?_⟩
    obtain ⟨t5, c5⟩ := cell_new (i := j) (j := n - 1 - i) h5
    generalize upd H4 p5 (.tup [V.int (j), V.int (n - 1 - i)]) = H5 at t5 c5 ⊢
    have c0 := t5 _ _ c0
    have c1 := t5 _ _ c1
    have c2 := t5 _ _ c2
    have c3 := t5 _ _ c3
    have c4 := t5 _ _ c4
    refine ⟨by rw [sizeLine_eq]; decide, fun p6 h6 => ?_⟩
    obtain ⟨t6, c6⟩ := cell_new (i := n - 1 - i) (j := n - 1 - j) h6
    generalize upd H5 p6 (.tup [V.int (n - 1 - i), V.int (n - 1 - j)]) = H6 at t6 c6 ⊢
    have c0 := t6 _ _ c0
    have c1 := t6 _ _ c1
    have c2 := t6 _ _ c2
    have c3 := t6 _ _ c3
    have c4 := t6 _ _ c4
    have c5 := t6 _ _ c5
    refine ⟨by rw [sizeLine_eq]; decide, fun l hl => ?_⟩
    have tl : Same H6 (upd H6 l (.lst [V.ref p0, V.ref p1, V.ref p2, V.ref p3, V.ref p4, V.ref p5, V.ref p6])) := Same.upd (Same.refl H6) hl
    have el : (upd H6 l (.lst [V.ref p0, V.ref p1, V.ref p2, V.ref p3, V.ref p4, V.ref p5, V.ref p6])) l = some (.lst [V.ref p0, V.ref p1, V.ref p2, V.ref p3, V.ref p4, V.ref p5, V.ref p6]) := upd_same
    generalize upd H6 l (.lst [V.ref p0, V.ref p1, V.ref p2, V.ref p3, V.ref p4, V.ref p5, V.ref p6]) = H7 at tl el ⊢
    have c0 := tl _ _ c0
    have c1 := tl _ _ c1
    have c2 := tl _ _ c2
    have c3 := tl _ _ c3
    have c4 := tl _ _ c4
    have c5 := tl _ _ c5
    have c6 := tl _ _ c6
    have st := t0.trans (t1.trans (t2.trans (t3.trans (t4.trans (t5.trans (t6.trans tl))))))
    rw [hR]; clear hR R
    simp only [tSeq, tRet, tRetN, tAsg, tIf, tIfS, tNext, tTest, tB, cx_K, cx_w, cx_nK, cx_nw, tOp, tUn, tVar, tC, tCons, tNil, tTup, tLst, tF, tM1, tCB, tAnd, tOr, tNot, tAndV, tOrV, tNotV, tChain, tFld, tPart, tNoPart, tSl, rU, rI0, rI, rEq, rNe, rIxD, rIxL, rIxT, rLen, rIsi, rLenQ, rTupOf, rIn, rSlL, rNewStrs, rAppend, rCat, gUnl, tDrop, wipe, List.foldl_cons, List.foldl_nil, StX.tMakeR, sFld, tLenSetN, tDictZip, rIndex, rSorted, rSortedT, rSetOfT, tPar, tPar3, tBM, rSum, rAll, rAny, tNever, gName, gTup, gCons, gNil, L2.start, List.map_cons, List.map_nil, List.length_cons, List.length_nil, List.cons_append, List.nil_append, List.set_cons_zero, List.set_cons_succ, List.getElem?_cons_zero, List.getElem?_cons_succ, Option.some.injEq, V.int.injEq, V.str.injEq, V.bl.injEq, V.ref.injEq, V.ty.injEq, List.cons.injEq, exists_and_left, exists_and_right, exists_eq_left, exists_eq_left', exists_eq, exists_eq', and_true, true_and, exists_const, List.replicate, Nat.sub_self, Nat.reduceAdd, Nat.reduceSub, if_true, if_false, Bool.false_eq_true, ite_true, ite_false, reduceIte]
    refine ⟨by rw [sizeLine_eq]; decide, fun p7 h7 => ?_⟩
    obtain ⟨t7, c7⟩ := cell_new (i := n - 1 - j) (j := n - 1 - i) h7
    generalize upd H7 p7 (.tup [V.int (n - 1 - j), V.int (n - 1 - i)]) = H8 at t7 c7 ⊢
    have c0 := t7 _ _ c0
    have c1 := t7 _ _ c1
    have c2 := t7 _ _ c2
    have c3 := t7 _ _ c3
    have c4 := t7 _ _ c4
    have c5 := t7 _ _ c5
    have c6 := t7 _ _ c6
    have el := t7 _ _ el
    refine ⟨by rw [sizeLine_eq]; decide, fun q hq => ?_⟩
    have t8 : Same H8 (upd H8 q (.lst [V.ref p7])) := Same.upd (Same.refl H8) hq
    have eq : (upd H8 q (.lst [V.ref p7])) q = some (.lst [V.ref p7]) := upd_same
    generalize upd H8 q (.lst [V.ref p7]) = H9 at t8 eq ⊢
    refine ⟨_, t8 _ _ el, _, eq, by show 7 + 1 ≤ sizeLine; rw [sizeLine_eq]; decide, fun r hr => ?_⟩
    have t9 := t8.trans (Same.upd (o := .lst ([V.ref p0, V.ref p1, V.ref p2, V.ref p3, V.ref p4, V.ref p5, V.ref p6] ++ [V.ref p7])) (Same.refl H9) hr)
    refine k _ r [(p0, (i, j)), (p1, (j, i)), (p2, (i, n - 1 - j)), (p3, (n - 1 - j, i)), (p4, (n - 1 - i, j)), (p5, (j, n - 1 - i)), (p6, (n - 1 - i, n - 1 - j)), (p7, (n - 1 - j, n - 1 - i))] (st.trans (t7.trans t9)) upd_same (fun p hp => ?_) rfl
    simp only [List.mem_cons, List.not_mem_nil, or_false] at hp
    rcases hp with rfl | rfl | rfl | rfl | rfl | rfl | rfl | rfl
    · exact t9 _ _ c0
    · exact t9 _ _ c1
    · exact t9 _ _ c2
    · exact t9 _ _ c3
    · exact t9 _ _ c4
    · exact t9 _ _ c5
    · exact t9 _ _ c6
    · exact t9 _ _ c7
def lawNames : List Str := ["same", "transpose", "mirror", "right", "upside", "left", "half", "slant"]
def spLawNames : Sp := fun vs H Q _ => vs = [] ∧ ∀ H' t, Same H H' → H' t = some (.lst (lawNames.map V.str)) → Q (.ref t) H'
abbrev N_law_names : List Str := []
theorem sc_law_names : FnScope N_law_names [] (defScope (top 111)) := ⟨rfl, rfl, rfl, by decide +kernel, rfl, by decide +kernel, by decide +kernel⟩
theorem F_law_names (T : TX w K mg) : Fn P w K mg base 1 "_law_names" (spLawNames) := by
  obtain ⟨fd, F⟩ := T.fi 47
  have nd := sc_law_names.nd
  refine ⟨_, raw0 F sc_law_names (fun vs H Q E h => ?_) (fun _ _ _ _ _ _ us hl => match us, hl with | [], _ => rfl) (fun cdv A outer s H vs Q E hr h => ?_), T.g "_law_names", F.kp⟩
  · obtain ⟨rfl, k⟩ := h
    rfl
  · obtain ⟨rfl, k⟩ := h
    refine ⟨_, (pss_one (ps_ret (pe_lst (pa_cons (pe_str) (pa_cons (pe_str) (pa_cons (pe_str) (pa_cons (pe_str) (pa_cons (pe_str) (pa_cons (pe_str) (pa_cons (pe_str) (pa_cons (pe_str) pa_nil))))))))))), ?_⟩
    simp only [tSeq, tRet, tRetN, tAsg, tIf, tIfS, tNext, tTest, tB, cx_K, cx_w, cx_nK, cx_nw, tOp, tUn, tVar, tC, tCons, tNil, tTup, tLst, tF, tM1, tCB, tAnd, tOr, tNot, tAndV, tOrV, tNotV, tChain, tFld, tPart, tNoPart, tSl, rU, rI0, rI, rEq, rNe, rIxD, rIxL, rIxT, rLen, rIsi, rLenQ, rTupOf, rIn, rSlL, rNewStrs, rAppend, rCat, gUnl, tDrop, wipe, List.foldl_cons, List.foldl_nil, StX.tMakeR, sFld, tLenSetN, tDictZip, rIndex, rSorted, rSortedT, rSetOfT, tPar, tPar3, tBM, rSum, rAll, rAny, tNever, gName, gTup, gCons, gNil, L2.start, List.map_cons, List.map_nil, List.length_cons, List.length_nil, List.cons_append, List.nil_append, List.set_cons_zero, List.set_cons_succ, List.getElem?_cons_zero, List.getElem?_cons_succ, Option.some.injEq, V.int.injEq, V.str.injEq, V.bl.injEq, V.ref.injEq, V.ty.injEq, List.cons.injEq, exists_and_left, exists_and_right, exists_eq_left, exists_eq_left', exists_eq, exists_eq', and_true, true_and, exists_const, List.replicate, Nat.sub_self, Nat.reduceAdd, Nat.reduceSub, if_true, if_false, Bool.false_eq_true, ite_true, ite_false, reduceIte]
    exact ⟨by rw [sizeLine_eq]; decide, fun p hp => k _ p (Same.upd (Same.refl _) hp) upd_same⟩
end
end Sq

set_option Elab.async false
set_option linter.all false
set_option maxRecDepth 100000
set_option maxHeartbeats 4000000
/-! ## Walks: the known programs -/
namespace Sq
open PySem PySem.Spec PyProof.Rows L2 He
section
variable {P : Program} {w : World} {K : PySem.W.Frag} {mg : Str → Option Value} {base : Heap}
def lawNum (p : Nat) : Nat := [3, 3, 3, 3, 3, 3, 5, 1, 1, 0, 4, 4, 0, 2, 6, 6, 7, 3].getD p 0
/-- Sizes(even=2, odd=1) -/
theorem sizes_every (T : TX w K mg) {H : Hp} {Q : Addr → Hp → Prop} (k : ∀ H' a, Same H H' → H a = none → SizesAt K H' a [] (some 2) (some 1) → Q a H') (x dx : Addr) (hx : H x = none) (hdx : H dx = none) (ne : dx ≠ x) :
    spSizesInit K [.ref x, .ref (dflAd K), .int 2, .int 1, .int 200] (upd (upd H dx (.own x)) x (.ins (ga K "Sizes") dx [])) (fun v H3 => v = .non ∧ Q x H3) E0 :=
  sizes_madeA (xs := []) (e := some 2) (o := some 1) (tupA_ok T.e.dfl H) (fun i hi => absurd hi (Nat.not_lt_zero _)) (Nat.zero_le _) (fun v hv => by cases hv; decide) (fun v hv => by cases hv; decide) k x dx hx hdx ne
theorem ok_one : okListed [1] 200 := fun i hi => by
  have : i = 0 := by simp at hi; omega
  subst this
  decide
/-- Sizes((1,), even=2) -/
theorem sizes_evens {H : Hp} {f : Addr} {Q : Addr → Hp → Prop} (hf : SqT K H f [V.int 1]) (k : ∀ H' a, Same H H' → H a = none → SizesAt K H' a [1] (some 2) none → Q a H') (x dx : Addr) (hx : H x = none) (hdx : H dx = none) (ne : dx ≠ x) :
    spSizesInit K [.ref x, .ref f, .int 2, .non, .int 200] (upd (upd H dx (.own x)) x (.ins (ga K "Sizes") dx [])) (fun v H3 => v = .non ∧ Q x H3) E0 :=
  sizes_madeA (xs := [1]) (e := some 2) (o := none) hf ok_one (by decide) (fun v hv => by cases hv; decide) (fun v hv => by cases hv) (fun H' a s h hs => k H' a s h hs) x dx hx hdx ne
/-- Sizes((1,)) -/
theorem sizes_first {H : Hp} {f : Addr} {Q : Addr → Hp → Prop} (hf : SqT K H f [V.int 1]) (k : ∀ H' a, Same H H' → H a = none → SizesAt K H' a [1] none none → Q a H') (x dx : Addr) (hx : H x = none) (hdx : H dx = none) (ne : dx ≠ x) :
    spSizesInit K [.ref x, .ref f, .non, .non, .int 200] (upd (upd H dx (.own x)) x (.ins (ga K "Sizes") dx [])) (fun v H3 => v = .non ∧ Q x H3) E0 :=
  sizes_madeA (xs := [1]) (e := none) (o := none) hf ok_one (by decide) (fun v hv => by cases hv) (fun v hv => by cases hv) (fun H' a s h hs => k H' a s h hs) x dx hx hdx ne
theorem ifG {t : TT} {a b : TS} {D : Ends} {σ : L2.St} {H : Hp} (h : ∀ A B : TS, A = a → B = b → tIfS t A B D σ H) : tIfS t a b D σ H := h a b rfl rfl
/-- a nest made -/
theorem nest_made {H : Hp} {Q : Addr → Hp → Prop} {ns : Ns} {o i d : Str} (ho : o = ns.over.txt) (hi : i = ns.below.txt) (hd : d = ns.deed.txt) (hns : NsOk ns) (k : ∀ H' a, Same H H' → H a = none → NestAt K H' a ns → Q a H') (x dx : Addr) (hx : H x = none) (hdx : H dx = none) (ne : dx ≠ x) :
    ∃ ws rest, [V.ref x, .str o, .str i, .str d] = ws ++ rest ∧ ws.length = 3 ∧ rest.length ≤ sizeLine ∧ ∀ p, (upd (upd H dx (.own x)) x (.ins (ga K "Nest") dx [])) p = none → spNestInit K (ws ++ [V.ref p]) (upd (upd (upd H dx (.own x)) x (.ins (ga K "Nest") dx [])) p (.tup rest)) (fun v H3 => v = .non ∧ Q x H3) E0 := by
  refine ⟨[.ref x, .str o, .str i], [.str d], rfl, rfl, by show 1 ≤ sizeLine; rw [sizeLine_eq]; decide, fun p hp => ?_⟩
  subst ho hi hd
  have s1 : Same H (upd (upd H dx (.own x)) x (.ins (ga K "Nest") dx [])) := Same.updD (Same.updD (Same.refl H) hdx) hx
  have ex : (upd (upd H dx (.own x)) x (.ins (ga K "Nest") dx [])) x = some (.ins (ga K "Nest") dx []) := upd_same
  generalize upd (upd H dx (.own x)) x (.ins (ga K "Nest") dx []) = H1 at s1 ex hp ⊢
  have s2 : Same H1 (upd H1 p (.tup [.str ns.deed.txt])) := Same.upd (Same.refl H1) hp
  refine ⟨x, dx, p, ns, rfl, hns, s2 _ _ ex, upd_same, fun H' sx hN => ⟨rfl, k H' x (fun b u h => ?_) hx hN⟩⟩
  have nb : b ≠ x := fun q => by rw [q, hx] at h; cases h
  exact sx _ _ nb (s2 _ _ (s1 _ _ h))
/-- a program made -/
theorem prog_made {H : Hp} {Q : Addr → Hp → Prop} {ps : List (Addr × Ns)} (hl : ps.length ≤ 4) (hn : ∀ q ∈ ps, NestAt K H q.1 q.2) (k : ∀ H' a, Same H H' → H a = none → ProgAt K H' a ps → Q a H') (x dx : Addr) (hx : H x = none) (hdx : H dx = none) (ne : dx ≠ x) :
    ∃ ws rest, V.ref x :: ps.map (fun q => V.ref q.1) = ws ++ rest ∧ ws.length = 1 ∧ rest.length ≤ sizeLine ∧ ∀ p, (upd (upd H dx (.own x)) x (.ins (ga K "Program") dx [])) p = none → spProgInit K (ws ++ [V.ref p]) (upd (upd (upd H dx (.own x)) x (.ins (ga K "Program") dx [])) p (.tup rest)) (fun v H3 => v = .non ∧ Q x H3) E0 := by
  refine ⟨[.ref x], ps.map fun q => V.ref q.1, rfl, rfl, by rw [List.length_map, sizeLine_eq]; omega, fun p hp => ?_⟩
  have s1 : Same H (upd (upd H dx (.own x)) x (.ins (ga K "Program") dx [])) := Same.updD (Same.updD (Same.refl H) hdx) hx
  have ex : (upd (upd H dx (.own x)) x (.ins (ga K "Program") dx [])) x = some (.ins (ga K "Program") dx []) := upd_same
  generalize upd (upd H dx (.own x)) x (.ins (ga K "Program") dx []) = H1 at s1 ex hp ⊢
  have s2 : Same H1 (upd H1 p (.tup (ps.map fun q => V.ref q.1))) := Same.upd (Same.refl H1) hp
  refine ⟨x, dx, p, ps, rfl, s2 _ _ ex, upd_same, hl, fun q hq => (hn q hq).same (s1.trans s2), fun H' sx hP => ⟨rfl, k H' x (fun b u h => ?_) hx hP⟩⟩
  have nb : b ≠ x := fun q => by rw [q, hx] at h; cases h
  exact sx _ _ nb (s2 _ _ (s1 _ _ h))
theorem tup_new {H : Hp} {p : Addr} {xs : List V} (hp : H p = none) : Same H (upd H p (.tup xs)) ∧ (upd H p (.tup xs)) p = some (.tup xs) := ⟨Same.upd (Same.refl H) hp, upd_same⟩
theorem lst_new {H : Hp} {p : Addr} {xs : List V} (hp : H p = none) : Same H (upd H p (.lst xs)) ∧ (upd H p (.lst xs)) p = some (.lst xs) := ⟨Same.upd (Same.refl H) hp, upd_same⟩
theorem ok_of {p : Nat} {ns : Ns} (h : prs.getD p [] = [ns]) : NsOk ns := by
  by_cases hp : p < prs.length
  · have e : prs.getD p [] = prs[p] := by rw [List.getD_eq_getElem?_getD, List.getElem?_eq_getElem hp]; rfl
    exact prs_ok _ (List.getElem_mem hp) ns (by rw [← e, h]; exact List.mem_singleton.mpr rfl)
  · rw [List.getD_eq_getElem?_getD, List.getElem?_eq_none (by omega)] at h
    cases h
theorem atI_eq {xs : List V} {z : Int} {j : Nat} {v : V} (e : z = (j : Int)) (h : xs[j]? = some v) : atI xs z = some v := by
  subst e
  exact atI_nat h
theorem atI_lt {xs : List V} {j : Nat} {v : V} (h : xs[j]? = some v) : atI xs (j : Nat) = some v := atI_nat h
def spKnown (K : PySem.W.Frag) : Sp := fun vs H Q _ => ∃ (p : Nat), vs = [.int p] ∧ p < 18 ∧ ∀ H' t pa ps sa, Same H H' → H' t = some (.lst [.ref pa, .int (lawNum p : Nat), .ref sa]) → ProgAt K H' pa ps → (∀ q ∈ ps, NsOk q.2) → ps.map (·.2) = prs.getD p [] → SizesAt K H' sa (szP p).1 (szP p).2.1 (szP p).2.2 → Q (.ref t) H'
abbrev N_law_known : List Str := ["_law_at", "_law_wheel", "_law_back", "_law_every", "_law_evens", "_law_first", "_law_loops", "_law_outer", "_law_inner", "_law_across"]
theorem sc_law_known : FnScope N_law_known ["_law_at"] (defScope (top 112)) := ⟨rfl, rfl, rfl, by decide +kernel, rfl, by decide +kernel, by decide +kernel⟩
theorem F_law_known (T : TX w K mg) : Fn P w K mg base 6 "_law_known" (spKnown K) := by
  obtain ⟨fd, F⟩ := T.fi 48
  have nd := sc_law_known.nd
  have F_Nest_init := F_Nest_init (P := P) (base := base) T
  have F_Program_init := F_Program_init (P := P) (base := base) T
  obtain ⟨fdS, g3, g2, g1, d4, d3, SF⟩ := SF (P := P) (base := base) T
  refine ⟨_, raw0 F sc_law_known (fun vs H Q E h => ?_) (fun _ _ _ _ _ _ us hl => match us, hl with | [_], _ => rfl) (fun cdv A outer s H vs Q E hr h => ?_), T.g "_law_known", F.kp⟩
  · obtain ⟨p, rfl, hp, k⟩ := h
    rfl
  · obtain ⟨p, rfl, hp, k⟩ := h
    refine ⟨_, (pss_cons (ps_asg (pe_tup (pa_cons (pe_str) (pa_cons (pe_str) pa_nil))) (pg_tup (n := 2) rfl (pgs_cons (pg_name (i := 1) nd rfl (Or.inl rfl)) (pgs_cons (pg_name (i := 2) nd rfl (Or.inl rfl)) pgs_nil))))
    (pss_cons (ps_par3 (i := 3) (j := 4) (l := 5) (by rfl) nd rfl rfl rfl (by decide) (by decide) (by decide) rfl rfl rfl (pa_cons (pe_makeK0 T.mkS SF.ok (hr.mono (by decide)) rfl (T.g "Sizes") SF.k2 pass0 (pk_cons (pe_int) (pk_cons (pe_int) pk_nil))) (pa_cons (pe_makeK T.mkS SF.ok (hr.mono (by decide)) rfl (T.g "Sizes") SF.k1 pass0 (pa_cons (pe_tup (pa_cons (pe_int) pa_nil)) pa_nil) (pk_cons (pe_int) pk_nil)) (pa_cons (pe_make T.mkS SF.ok (hr.mono (by decide)) rfl (T.g "Sizes") SF.b3.2 SF.b3.1 pass0 (pa_cons (pe_tup (pa_cons (pe_int) pa_nil)) pa_nil)) pa_nil))) (by rfl))
    (pss_cons (ps_if (pt_cmpR op_lt (pv 0) (pe_int) (nomark _)) (pss_cons (ps_set (i := 6) nd rfl (Or.inl rfl) (pe_lst (pa_cons (pe_tup (pa_cons (pe_str) (pa_cons (pe_str) pa_nil))) (pa_cons (pe_tup (pa_cons (pe_str) (pa_cons (pe_str) pa_nil))) (pa_cons (pe_tup (pa_cons (pe_str) (pa_cons (pe_str) pa_nil))) pa_nil)))))
    (pss_cons (ps_set (i := 6) nd rfl (Or.inl rfl) (pe_op op_cat (pv 6) (pe_lst (pa_cons (pe_tup (pa_cons (pe_str) (pa_cons (pe_str) pa_nil))) (pa_cons (pe_tup (pa_cons (pe_str) (pa_cons (pe_str) pa_nil))) (pa_cons (pe_tup (pa_cons (pe_str) (pa_cons (pe_str) pa_nil))) pa_nil))))))
    (pss_cons (ps_asg (pe_ix ix_list (pv 6) (pv 0) (fun _ _ => rfl)) (pg_tup (n := 2) rfl (pgs_cons (pg_name (i := 7) nd rfl (Or.inl rfl)) (pgs_cons (pg_name (i := 8) nd rfl (Or.inl rfl)) pgs_nil))))
    (pss_one (ps_ret (pe_lst (pa_cons (StX.pe_makeR T.mkP F_Program_init (hr.mono (by decide)) rfl (T.g "Program") pass0 (pa_cons (StX.pe_makeR T.mkN F_Nest_init (hr.mono (by decide)) rfl (T.g "Nest") pass0 (pa_cons (pv 7) (pa_cons (pv 8) (pa_cons (pv 1) pa_nil)))) pa_nil)) (pa_cons (pe_int) (pa_cons (pe_ix ix_list (pe_lst (pa_cons (pv 3) (pa_cons (pv 3) (pa_cons (pv 3) (pa_cons (pv 4) (pa_cons (pv 5) (pa_cons (pv 3) pa_nil))))))) (pv 0) (fun _ _ => rfl)) pa_nil))))))))) pss_nil)
    (pss_cons (ps_if (pt_cmpR op_eq (pv 0) (pe_int) (nomark _)) (pss_one (ps_ret (pe_lst (pa_cons (StX.pe_makeR T.mkP F_Program_init (hr.mono (by decide)) rfl (T.g "Program") pass0 (pa_cons (StX.pe_makeR T.mkN F_Nest_init (hr.mono (by decide)) rfl (T.g "Nest") pass0 (pa_cons (pe_str) (pa_cons (pe_str) (pa_cons (pv 2) pa_nil)))) pa_nil)) (pa_cons (pe_int) (pa_cons (pv 3) pa_nil)))))) pss_nil)
    (pss_cons (ps_if (pt_cmpR op_lt (pv 0) (pe_int) (nomark _)) (pss_cons (ps_set (i := 8) nd rfl (Or.inl rfl) (pe_ix ix_list (pe_lst (pa_cons (pe_str) (pa_cons (pe_str) (pa_cons (pe_str) pa_nil)))) (pe_op op_sub (pv 0) (pe_int)) (fun _ _ => rfl)))
    (pss_one (ps_ret (pe_lst (pa_cons (StX.pe_makeR T.mkP F_Program_init (hr.mono (by decide)) rfl (T.g "Program") pass0 (pa_cons (StX.pe_makeR T.mkN F_Nest_init (hr.mono (by decide)) rfl (T.g "Nest") pass0 (pa_cons (pe_str) (pa_cons (pv 8) (pa_cons (pe_str) pa_nil)))) pa_nil)) (pa_cons (pe_ix ix_list (pe_lst (pa_cons (pe_int) (pa_cons (pe_int) (pa_cons (pe_int) pa_nil)))) (pe_op op_sub (pv 0) (pe_int)) (fun _ _ => rfl)) (pa_cons (pv 3) pa_nil))))))) pss_nil)
    (pss_cons (ps_if (pt_cmpR op_lt (pv 0) (pe_int) (nomark _)) (pss_cons (ps_set (i := 7) nd rfl (Or.inl rfl) (pe_ix ix_list (pe_lst (pa_cons (pe_str) (pa_cons (pe_str) (pa_cons (pe_str) pa_nil)))) (pe_op op_sub (pv 0) (pe_int)) (fun _ _ => rfl)))
    (pss_one (ps_ret (pe_lst (pa_cons (StX.pe_makeR T.mkP F_Program_init (hr.mono (by decide)) rfl (T.g "Program") pass0 (pa_cons (StX.pe_makeR T.mkN F_Nest_init (hr.mono (by decide)) rfl (T.g "Nest") pass0 (pa_cons (pv 7) (pa_cons (pe_str) (pa_cons (pe_str) pa_nil)))) pa_nil)) (pa_cons (pe_ix ix_list (pe_lst (pa_cons (pe_int) (pa_cons (pe_int) (pa_cons (pe_int) pa_nil)))) (pe_op op_sub (pv 0) (pe_int)) (fun _ _ => rfl)) (pa_cons (pv 3) pa_nil))))))) pss_nil)
    (pss_cons (ps_if (pt_cmpR op_eq (pv 0) (pe_int) (nomark _)) (pss_one (ps_ret (pe_lst (pa_cons (StX.pe_makeR T.mkP F_Program_init (hr.mono (by decide)) rfl (T.g "Program") pass0 (pa_cons (StX.pe_makeR T.mkN F_Nest_init (hr.mono (by decide)) rfl (T.g "Nest") pass0 (pa_cons (pe_str) (pa_cons (pe_str) (pa_cons (pe_str) pa_nil)))) pa_nil)) (pa_cons (pe_int) (pa_cons (pv 3) pa_nil)))))) pss_nil)
    (pss_cons (ps_if (pt_cmpR op_lt (pv 0) (pe_int) (nomark _)) (pss_cons (ps_set (i := 7) nd rfl (Or.inl rfl) (pe_ix ix_list (pe_lst (pa_cons (pe_str) (pa_cons (pe_str) pa_nil))) (pe_op op_sub (pv 0) (pe_int)) (fun _ _ => rfl)))
    (pss_one (ps_ret (pe_lst (pa_cons (StX.pe_makeR T.mkP F_Program_init (hr.mono (by decide)) rfl (T.g "Program") pass0 (pa_cons (StX.pe_makeR T.mkN F_Nest_init (hr.mono (by decide)) rfl (T.g "Nest") pass0 (pa_cons (pv 7) (pa_cons (pe_str) (pa_cons (pe_str) pa_nil)))) pa_nil)) (pa_cons (pe_int) (pa_cons (pv 4) pa_nil))))))) pss_nil)
    (pss_cons (ps_if (pt_cmpR op_eq (pv 0) (pe_int) (nomark _)) (pss_one (ps_ret (pe_lst (pa_cons (StX.pe_makeR T.mkP F_Program_init (hr.mono (by decide)) rfl (T.g "Program") pass0 (pa_cons (StX.pe_makeR T.mkN F_Nest_init (hr.mono (by decide)) rfl (T.g "Nest") pass0 (pa_cons (pe_str) (pa_cons (pe_str) (pa_cons (pe_str) pa_nil)))) pa_nil)) (pa_cons (pe_int) (pa_cons (pv 3) pa_nil)))))) pss_nil)
    (pss_cons (ps_set (i := 9) nd rfl (Or.inl rfl) (StX.pe_makeR T.mkN F_Nest_init (hr.mono (by decide)) rfl (T.g "Nest") pass0 (pa_cons (pe_str) (pa_cons (pe_str) (pa_cons (pe_str) pa_nil)))))
    (pss_one (ps_ret (pe_lst (pa_cons (StX.pe_makeR T.mkP F_Program_init (hr.mono (by decide)) rfl (T.g "Program") pass0 (pa_cons (pv 9) (pa_cons (StX.pe_makeR T.mkN F_Nest_init (hr.mono (by decide)) rfl (T.g "Nest") pass0 (pa_cons (pe_str) (pa_cons (pe_str) (pa_cons (pe_str) pa_nil)))) pa_nil))) (pa_cons (pe_int) (pa_cons (pv 3) pa_nil)))))))))))))))), ?_⟩
    refine seqG fun R hR => ?_
    simp only [tSeq, tRet, tRetN, tAsg, tIf, tIfS, tNext, tTest, tB, cx_K, cx_w, cx_nK, cx_nw, tOp, tUn, tVar, tC, tCons, tNil, tTup, tLst, tF, tM1, tCB, tAnd, tOr, tNot, tAndV, tOrV, tNotV, tChain, tFld, tPart, tNoPart, tSl, rU, rI0, rI, rEq, rNe, rIxD, rIxL, rIxT, rLen, rIsi, rLenQ, rTupOf, rIn, rSlL, rNewStrs, rAppend, rCat, gUnl, tDrop, wipe, List.foldl_cons, List.foldl_nil, StX.tMakeR, sFld, tLenSetN, tDictZip, rIndex, rSorted, rSortedT, rSetOfT, tPar, tPar3, tBM, rSum, rAll, rAny, tNever, gName, gTup, gCons, gNil, L2.start, List.map_cons, List.map_nil, List.length_cons, List.length_nil, List.cons_append, List.nil_append, List.set_cons_zero, List.set_cons_succ, List.getElem?_cons_zero, List.getElem?_cons_succ, Option.some.injEq, V.int.injEq, V.str.injEq, V.bl.injEq, V.ref.injEq, V.ty.injEq, List.cons.injEq, exists_and_left, exists_and_right, exists_eq_left, exists_eq_left', exists_eq, exists_eq', and_true, true_and, exists_const, List.replicate, Nat.sub_self, Nat.reduceAdd, Nat.reduceSub, if_true, if_false, Bool.false_eq_true, ite_true, ite_false, reduceIte]
    refine ⟨by rw [sizeLine_eq]; decide, fun t0 h0 => ⟨_, .of upd_same, rfl, _, _, rfl, _, _, rfl, rfl, ?_⟩⟩
    have s1 : Same H (upd H t0 (.tup [V.str "turn i,j j,~i ~i,~j ~j,i", V.str "turn i,j ~j,i ~i,~j j,~i"])) := Same.upd (Same.refl H) h0
    generalize upd H t0 (.tup [V.str "turn i,j j,~i ~i,~j ~j,i", V.str "turn i,j ~j,i ~i,~j j,~i"]) = H1 at s1 ⊢
    rw [hR]; clear hR R
    refine seqG fun R hR => ?_
    simp only [tSeq, tRet, tRetN, tAsg, tIf, tIfS, tNext, tTest, tB, cx_K, cx_w, cx_nK, cx_nw, tOp, tUn, tVar, tC, tCons, tNil, tTup, tLst, tF, tM1, tCB, tAnd, tOr, tNot, tAndV, tOrV, tNotV, tChain, tFld, tPart, tNoPart, tSl, rU, rI0, rI, rEq, rNe, rIxD, rIxL, rIxT, rLen, rIsi, rLenQ, rTupOf, rIn, rSlL, rNewStrs, rAppend, rCat, gUnl, tDrop, wipe, List.foldl_cons, List.foldl_nil, StX.tMakeR, sFld, tLenSetN, tDictZip, rIndex, rSorted, rSortedT, rSetOfT, tPar, tPar3, tBM, rSum, rAll, rAny, tNever, gName, gTup, gCons, gNil, L2.start, List.map_cons, List.map_nil, List.length_cons, List.length_nil, List.cons_append, List.nil_append, List.set_cons_zero, List.set_cons_succ, List.getElem?_cons_zero, List.getElem?_cons_succ, Option.some.injEq, V.int.injEq, V.str.injEq, V.bl.injEq, V.ref.injEq, V.ty.injEq, List.cons.injEq, exists_and_left, exists_and_right, exists_eq_left, exists_eq_left', exists_eq, exists_eq', and_true, true_and, exists_const, List.replicate, Nat.sub_self, Nat.reduceAdd, Nat.reduceSub, if_true, if_false, Bool.false_eq_true, ite_true, ite_false, reduceIte, tMakeK, tMake]
    refine sizes_every T fun H2 ae s2 _ ze => ⟨by rw [sizeLine_eq]; decide, fun t1 h1 => ?_⟩
    have s3 : Same H2 (upd H2 t1 (.tup [V.int 1])) := Same.upd (Same.refl H2) h1
    have e3 : (upd H2 t1 (.tup [V.int 1])) t1 = some (.tup [V.int 1]) := upd_same
    generalize upd H2 t1 (.tup [V.int 1]) = H3 at s3 e3 ⊢
    refine sizes_evens (.of e3) fun H4 av s4 _ zv => ⟨by rw [sizeLine_eq]; decide, fun t2 h2 => ?_⟩
    have s5 : Same H4 (upd H4 t2 (.tup [V.int 1])) := Same.upd (Same.refl H4) h2
    have e5 : (upd H4 t2 (.tup [V.int 1])) t2 = some (.tup [V.int 1]) := upd_same
    generalize upd H4 t2 (.tup [V.int 1]) = H5 at s5 e5 ⊢
    refine sizes_first (.of e5) fun H6 af s6 _ zf => ⟨_, _, _, ⟨rfl, rfl, rfl⟩, ?_⟩
    have ze := ze.same (s3.trans (s4.trans (s5.trans s6)))
    have zv := zv.same (s5.trans s6)
    have st := s1.trans (s2.trans (s3.trans (s4.trans (s5.trans s6))))
    clear s1 s2 s3 s4 s5 s6 e3 e5 h0 h1 h2
    rw [hR]; clear hR R
    refine seqG fun R hR => ?_
    refine ifG fun A B hA hB => ?_
    simp only [tSeq, tRet, tRetN, tAsg, tIf, tIfS, tNext, tTest, tB, cx_K, cx_w, cx_nK, cx_nw, tOp, tUn, tVar, tC, tCons, tNil, tTup, tLst, tF, tM1, tCB, tAnd, tOr, tNot, tAndV, tOrV, tNotV, tChain, tFld, tPart, tNoPart, tSl, rU, rI0, rI, rEq, rNe, rIxD, rIxL, rIxT, rLen, rIsi, rLenQ, rTupOf, rIn, rSlL, rNewStrs, rAppend, rCat, gUnl, tDrop, wipe, List.foldl_cons, List.foldl_nil, StX.tMakeR, sFld, tLenSetN, tDictZip, rIndex, rSorted, rSortedT, rSetOfT, tPar, tPar3, tBM, rSum, rAll, rAny, tNever, gName, gTup, gCons, gNil, L2.start, List.map_cons, List.map_nil, List.length_cons, List.length_nil, List.cons_append, List.nil_append, List.set_cons_zero, List.set_cons_succ, List.getElem?_cons_zero, List.getElem?_cons_succ, Option.some.injEq, V.int.injEq, V.str.injEq, V.bl.injEq, V.ref.injEq, V.ty.injEq, List.cons.injEq, exists_and_left, exists_and_right, exists_eq_left, exists_eq_left', exists_eq, exists_eq', and_true, true_and, exists_const, List.replicate, Nat.sub_self, Nat.reduceAdd, Nat.reduceSub, if_true, if_false, Bool.false_eq_true, ite_true, ite_false, reduceIte]
    by_cases h6 : p < 6
    · rw [decide_eq_true (show (p : Int) < 6 by omega)]
      refine iteT ?_
      rw [hA]; clear hA hB hR A B
      refine seqG fun R2 hR2 => ?_
      simp only [tSeq, tRet, tRetN, tAsg, tIf, tIfS, tNext, tTest, tB, cx_K, cx_w, cx_nK, cx_nw, tOp, tUn, tVar, tC, tCons, tNil, tTup, tLst, tF, tM1, tCB, tAnd, tOr, tNot, tAndV, tOrV, tNotV, tChain, tFld, tPart, tNoPart, tSl, rU, rI0, rI, rEq, rNe, rIxD, rIxL, rIxT, rLen, rIsi, rLenQ, rTupOf, rIn, rSlL, rNewStrs, rAppend, rCat, gUnl, tDrop, wipe, List.foldl_cons, List.foldl_nil, StX.tMakeR, sFld, tLenSetN, tDictZip, rIndex, rSorted, rSortedT, rSetOfT, tPar, tPar3, tBM, rSum, rAll, rAny, tNever, gName, gTup, gCons, gNil, L2.start, List.map_cons, List.map_nil, List.length_cons, List.length_nil, List.cons_append, List.nil_append, List.set_cons_zero, List.set_cons_succ, List.getElem?_cons_zero, List.getElem?_cons_succ, Option.some.injEq, V.int.injEq, V.str.injEq, V.bl.injEq, V.ref.injEq, V.ty.injEq, List.cons.injEq, exists_and_left, exists_and_right, exists_eq_left, exists_eq_left', exists_eq, exists_eq', and_true, true_and, exists_const, List.replicate, Nat.sub_self, Nat.reduceAdd, Nat.reduceSub, if_true, if_false, Bool.false_eq_true, ite_true, ite_false, reduceIte]
      refine ⟨by rw [sizeLine_eq]; decide, fun q0 hq0 => ?_⟩
      obtain ⟨t7, cq0⟩ := tup_new (xs := [V.str "0 to n//2", V.str "i to n-i-1"]) hq0
      generalize upd H6 q0 (.tup [V.str "0 to n//2", V.str "i to n-i-1"]) = H7 at t7 cq0 ⊢
      have st := st.trans t7
      have ze := ze.same t7
      have zv := zv.same t7
      have zf := zf.same t7
      refine ⟨by rw [sizeLine_eq]; decide, fun q1 hq1 => ?_⟩
      obtain ⟨t8, cq1⟩ := tup_new (xs := [V.str "0 to (n+1)//2", V.str "0 to n//2"]) hq1
      generalize upd H7 q1 (.tup [V.str "0 to (n+1)//2", V.str "0 to n//2"]) = H8 at t8 cq1 ⊢
      have cq0 := t8 _ _ cq0
      have st := st.trans t8
      have ze := ze.same t8
      have zv := zv.same t8
      have zf := zf.same t8
      refine ⟨by rw [sizeLine_eq]; decide, fun q2 hq2 => ?_⟩
      obtain ⟨t9, cq2⟩ := tup_new (xs := [V.str "0 to n//2", V.str "0 to (n+1)//2"]) hq2
      generalize upd H8 q2 (.tup [V.str "0 to n//2", V.str "0 to (n+1)//2"]) = H9 at t9 cq2 ⊢
      have cq0 := t9 _ _ cq0
      have cq1 := t9 _ _ cq1
      have st := st.trans t9
      have ze := ze.same t9
      have zv := zv.same t9
      have zf := zf.same t9
      refine ⟨by rw [sizeLine_eq]; decide, fun l1 hl1 => ?_⟩
      obtain ⟨t10, cl1⟩ := lst_new (xs := [V.ref q0, V.ref q1, V.ref q2]) hl1
      generalize upd H9 l1 (.lst [V.ref q0, V.ref q1, V.ref q2]) = H10 at t10 cl1 ⊢
      have cq0 := t10 _ _ cq0
      have cq1 := t10 _ _ cq1
      have cq2 := t10 _ _ cq2
      have st := st.trans t10
      have ze := ze.same t10
      have zv := zv.same t10
      have zf := zf.same t10
      rw [hR2]; clear hR2 R2
      refine seqG fun R2 hR2 => ?_
      simp only [tSeq, tRet, tRetN, tAsg, tIf, tIfS, tNext, tTest, tB, cx_K, cx_w, cx_nK, cx_nw, tOp, tUn, tVar, tC, tCons, tNil, tTup, tLst, tF, tM1, tCB, tAnd, tOr, tNot, tAndV, tOrV, tNotV, tChain, tFld, tPart, tNoPart, tSl, rU, rI0, rI, rEq, rNe, rIxD, rIxL, rIxT, rLen, rIsi, rLenQ, rTupOf, rIn, rSlL, rNewStrs, rAppend, rCat, gUnl, tDrop, wipe, List.foldl_cons, List.foldl_nil, StX.tMakeR, sFld, tLenSetN, tDictZip, rIndex, rSorted, rSortedT, rSetOfT, tPar, tPar3, tBM, rSum, rAll, rAny, tNever, gName, gTup, gCons, gNil, L2.start, List.map_cons, List.map_nil, List.length_cons, List.length_nil, List.cons_append, List.nil_append, List.set_cons_zero, List.set_cons_succ, List.getElem?_cons_zero, List.getElem?_cons_succ, Option.some.injEq, V.int.injEq, V.str.injEq, V.bl.injEq, V.ref.injEq, V.ty.injEq, List.cons.injEq, exists_and_left, exists_and_right, exists_eq_left, exists_eq_left', exists_eq, exists_eq', and_true, true_and, exists_const, List.replicate, Nat.sub_self, Nat.reduceAdd, Nat.reduceSub, if_true, if_false, Bool.false_eq_true, ite_true, ite_false, reduceIte]
      refine ⟨by rw [sizeLine_eq]; decide, fun q3 hq3 => ?_⟩
      obtain ⟨t11, cq3⟩ := tup_new (xs := [V.str "0 to n//2", V.str "0 to n//2"]) hq3
      generalize upd H10 q3 (.tup [V.str "0 to n//2", V.str "0 to n//2"]) = H11 at t11 cq3 ⊢
      have cq0 := t11 _ _ cq0
      have cq1 := t11 _ _ cq1
      have cq2 := t11 _ _ cq2
      have cl1 := t11 _ _ cl1
      have st := st.trans t11
      have ze := ze.same t11
      have zv := zv.same t11
      have zf := zf.same t11
      refine ⟨by rw [sizeLine_eq]; decide, fun q4 hq4 => ?_⟩
      obtain ⟨t12, cq4⟩ := tup_new (xs := [V.str "0 to n//2", V.str "i to n-i"]) hq4
      generalize upd H11 q4 (.tup [V.str "0 to n//2", V.str "i to n-i"]) = H12 at t12 cq4 ⊢
      have cq0 := t12 _ _ cq0
      have cq1 := t12 _ _ cq1
      have cq2 := t12 _ _ cq2
      have cl1 := t12 _ _ cl1
      have cq3 := t12 _ _ cq3
      have st := st.trans t12
      have ze := ze.same t12
      have zv := zv.same t12
      have zf := zf.same t12
      refine ⟨by rw [sizeLine_eq]; decide, fun q5 hq5 => ?_⟩
      obtain ⟨t13, cq5⟩ := tup_new (xs := [V.str "0 to n//2 down", V.str "i to n-i-1 down"]) hq5
      generalize upd H12 q5 (.tup [V.str "0 to n//2 down", V.str "i to n-i-1 down"]) = H13 at t13 cq5 ⊢
      have cq0 := t13 _ _ cq0
      have cq1 := t13 _ _ cq1
      have cq2 := t13 _ _ cq2
      have cl1 := t13 _ _ cl1
      have cq3 := t13 _ _ cq3
      have cq4 := t13 _ _ cq4
      have st := st.trans t13
      have ze := ze.same t13
      have zv := zv.same t13
      have zf := zf.same t13
      refine ⟨by rw [sizeLine_eq]; decide, fun l2 hl2 => ?_⟩
      obtain ⟨t14, cl2⟩ := lst_new (xs := [V.ref q3, V.ref q4, V.ref q5]) hl2
      generalize upd H13 l2 (.lst [V.ref q3, V.ref q4, V.ref q5]) = H14 at t14 cl2 ⊢
      have cq0 := t14 _ _ cq0
      have cq1 := t14 _ _ cq1
      have cq2 := t14 _ _ cq2
      have cl1 := t14 _ _ cl1
      have cq3 := t14 _ _ cq3
      have cq4 := t14 _ _ cq4
      have cq5 := t14 _ _ cq5
      have st := st.trans t14
      have ze := ze.same t14
      have zv := zv.same t14
      have zf := zf.same t14
      refine ⟨_, cl1, _, cl2, by show 3 + 3 ≤ sizeLine; rw [sizeLine_eq]; decide, fun l3 hl3 => ?_⟩
      show R2 _ (upd H14 l3 (.lst [V.ref q0, V.ref q1, V.ref q2, V.ref q3, V.ref q4, V.ref q5]))
      obtain ⟨t15, cl3⟩ := lst_new (xs := [V.ref q0, V.ref q1, V.ref q2, V.ref q3, V.ref q4, V.ref q5]) hl3
      generalize upd H14 l3 (.lst [V.ref q0, V.ref q1, V.ref q2, V.ref q3, V.ref q4, V.ref q5]) = H15 at t15 cl3 ⊢
      have cq0 := t15 _ _ cq0
      have cq1 := t15 _ _ cq1
      have cq2 := t15 _ _ cq2
      have cl1 := t15 _ _ cl1
      have cq3 := t15 _ _ cq3
      have cq4 := t15 _ _ cq4
      have cq5 := t15 _ _ cq5
      have cl2 := t15 _ _ cl2
      have st := st.trans t15
      have ze := ze.same t15
      have zv := zv.same t15
      have zf := zf.same t15
      rw [hR2]; clear hR2 R2
      refine seqG fun R2 hR2 => ?_
      have key : ∀ (ns : Ns) (o i : Str) (sa : Addr), prs.getD p [] = [ns] → o = ns.over.txt → i = ns.below.txt → ("turn i,j j,~i ~i,~j ~j,i" : Str) = ns.deed.txt → lawNum p = 3 → [V.ref ae, V.ref ae, V.ref ae, V.ref av, V.ref af, V.ref ae][p]? = some (V.ref sa) → SizesAt K H15 sa (szP p).1 (szP p).2.1 (szP p).2.2 → R2 [some (V.int (p : Nat)), some (V.str "turn i,j j,~i ~i,~j ~j,i"), some (V.str "turn i,j ~j,i ~i,~j j,~i"), some (V.ref ae), some (V.ref av), some (V.ref af), some (V.ref l3), some (V.str o), some (V.str i), none] H15 := by
        intro ns o i sa epr eo ei ed enum eat zs
        have hok := ok_of epr
        rw [hR2]; clear hR2 R2
        simp only [tSeq, tRet, tRetN, tAsg, tIf, tIfS, tNext, tTest, tB, cx_K, cx_w, cx_nK, cx_nw, tOp, tUn, tVar, tC, tCons, tNil, tTup, tLst, tF, tM1, tCB, tAnd, tOr, tNot, tAndV, tOrV, tNotV, tChain, tFld, tPart, tNoPart, tSl, rU, rI0, rI, rEq, rNe, rIxD, rIxL, rIxT, rLen, rIsi, rLenQ, rTupOf, rIn, rSlL, rNewStrs, rAppend, rCat, gUnl, tDrop, wipe, List.foldl_cons, List.foldl_nil, StX.tMakeR, sFld, tLenSetN, tDictZip, rIndex, rSorted, rSortedT, rSetOfT, tPar, tPar3, tBM, rSum, rAll, rAny, tNever, gName, gTup, gCons, gNil, L2.start, List.map_cons, List.map_nil, List.length_cons, List.length_nil, List.cons_append, List.nil_append, List.set_cons_zero, List.set_cons_succ, List.getElem?_cons_zero, List.getElem?_cons_succ, Option.some.injEq, V.int.injEq, V.str.injEq, V.bl.injEq, V.ref.injEq, V.ty.injEq, List.cons.injEq, exists_and_left, exists_and_right, exists_eq_left, exists_eq_left', exists_eq, exists_eq', and_true, true_and, exists_const, List.replicate, Nat.sub_self, Nat.reduceAdd, Nat.reduceSub, if_true, if_false, Bool.false_eq_true, ite_true, ite_false, reduceIte]
        refine nest_made eo ei ed hok fun Hn na sn _ en => prog_made (ps := [(na, ns)]) (by show 1 ≤ 4; decide) (fun q hq => by rw [List.mem_singleton] at hq; rw [hq]; exact en) fun Hp pa sp _ ep => ⟨by show 6 ≤ sizeLine; rw [sizeLine_eq]; decide, fun l hl => ?_⟩
        have sl : Same Hp (upd Hp l (.lst [V.ref ae, V.ref ae, V.ref ae, V.ref av, V.ref af, V.ref ae])) := Same.upd (Same.refl Hp) hl
        refine ⟨_, .of upd_same, _, atI_nat eat, by show 3 ≤ sizeLine; rw [sizeLine_eq]; decide, fun t ht => ?_⟩
        have s3 := sl.trans (Same.upd (o := .lst [V.ref pa, V.int (3 : Nat), V.ref sa]) (Same.refl _) ht)
        refine k _ t pa [(na, ns)] sa (st.trans (sn.trans (sp.trans s3))) ?_ (ep.same s3) (fun q hq => by rw [List.mem_singleton] at hq; rw [hq]; exact hok) epr.symm (zs.same (sn.trans (sp.trans s3)))
        rw [enum]
        exact upd_same
      clear hl3
      match p, h6 with
      | 0, _ =>
        simp only [tSeq, tRet, tRetN, tAsg, tIf, tIfS, tNext, tTest, tB, cx_K, cx_w, cx_nK, cx_nw, tOp, tUn, tVar, tC, tCons, tNil, tTup, tLst, tF, tM1, tCB, tAnd, tOr, tNot, tAndV, tOrV, tNotV, tChain, tFld, tPart, tNoPart, tSl, rU, rI0, rI, rEq, rNe, rIxD, rIxL, rIxT, rLen, rIsi, rLenQ, rTupOf, rIn, rSlL, rNewStrs, rAppend, rCat, gUnl, tDrop, wipe, List.foldl_cons, List.foldl_nil, StX.tMakeR, sFld, tLenSetN, tDictZip, rIndex, rSorted, rSortedT, rSetOfT, tPar, tPar3, tBM, rSum, rAll, rAny, tNever, gName, gTup, gCons, gNil, L2.start, List.map_cons, List.map_nil, List.length_cons, List.length_nil, List.cons_append, List.nil_append, List.set_cons_zero, List.set_cons_succ, List.getElem?_cons_zero, List.getElem?_cons_succ, Option.some.injEq, V.int.injEq, V.str.injEq, V.bl.injEq, V.ref.injEq, V.ty.injEq, List.cons.injEq, exists_and_left, exists_and_right, exists_eq_left, exists_eq_left', exists_eq, exists_eq', and_true, true_and, exists_const, List.replicate, Nat.sub_self, Nat.reduceAdd, Nat.reduceSub, if_true, if_false, Bool.false_eq_true, ite_true, ite_false, reduceIte]
        exact ⟨_, .of cl3, V.ref q0, atI_nat (j := 0) rfl, _, rfl, _, .of cq0, rfl, _, _, rfl, _, _, rfl, rfl, key _ _ _ ae rfl (by decide +kernel) (by decide +kernel) (by decide +kernel) rfl rfl ze⟩
      | 1, _ =>
        simp only [tSeq, tRet, tRetN, tAsg, tIf, tIfS, tNext, tTest, tB, cx_K, cx_w, cx_nK, cx_nw, tOp, tUn, tVar, tC, tCons, tNil, tTup, tLst, tF, tM1, tCB, tAnd, tOr, tNot, tAndV, tOrV, tNotV, tChain, tFld, tPart, tNoPart, tSl, rU, rI0, rI, rEq, rNe, rIxD, rIxL, rIxT, rLen, rIsi, rLenQ, rTupOf, rIn, rSlL, rNewStrs, rAppend, rCat, gUnl, tDrop, wipe, List.foldl_cons, List.foldl_nil, StX.tMakeR, sFld, tLenSetN, tDictZip, rIndex, rSorted, rSortedT, rSetOfT, tPar, tPar3, tBM, rSum, rAll, rAny, tNever, gName, gTup, gCons, gNil, L2.start, List.map_cons, List.map_nil, List.length_cons, List.length_nil, List.cons_append, List.nil_append, List.set_cons_zero, List.set_cons_succ, List.getElem?_cons_zero, List.getElem?_cons_succ, Option.some.injEq, V.int.injEq, V.str.injEq, V.bl.injEq, V.ref.injEq, V.ty.injEq, List.cons.injEq, exists_and_left, exists_and_right, exists_eq_left, exists_eq_left', exists_eq, exists_eq', and_true, true_and, exists_const, List.replicate, Nat.sub_self, Nat.reduceAdd, Nat.reduceSub, if_true, if_false, Bool.false_eq_true, ite_true, ite_false, reduceIte]
        exact ⟨_, .of cl3, V.ref q1, atI_nat (j := 1) rfl, _, rfl, _, .of cq1, rfl, _, _, rfl, _, _, rfl, rfl, key _ _ _ ae rfl (by decide +kernel) (by decide +kernel) (by decide +kernel) rfl rfl ze⟩
      | 2, _ =>
        simp only [tSeq, tRet, tRetN, tAsg, tIf, tIfS, tNext, tTest, tB, cx_K, cx_w, cx_nK, cx_nw, tOp, tUn, tVar, tC, tCons, tNil, tTup, tLst, tF, tM1, tCB, tAnd, tOr, tNot, tAndV, tOrV, tNotV, tChain, tFld, tPart, tNoPart, tSl, rU, rI0, rI, rEq, rNe, rIxD, rIxL, rIxT, rLen, rIsi, rLenQ, rTupOf, rIn, rSlL, rNewStrs, rAppend, rCat, gUnl, tDrop, wipe, List.foldl_cons, List.foldl_nil, StX.tMakeR, sFld, tLenSetN, tDictZip, rIndex, rSorted, rSortedT, rSetOfT, tPar, tPar3, tBM, rSum, rAll, rAny, tNever, gName, gTup, gCons, gNil, L2.start, List.map_cons, List.map_nil, List.length_cons, List.length_nil, List.cons_append, List.nil_append, List.set_cons_zero, List.set_cons_succ, List.getElem?_cons_zero, List.getElem?_cons_succ, Option.some.injEq, V.int.injEq, V.str.injEq, V.bl.injEq, V.ref.injEq, V.ty.injEq, List.cons.injEq, exists_and_left, exists_and_right, exists_eq_left, exists_eq_left', exists_eq, exists_eq', and_true, true_and, exists_const, List.replicate, Nat.sub_self, Nat.reduceAdd, Nat.reduceSub, if_true, if_false, Bool.false_eq_true, ite_true, ite_false, reduceIte]
        exact ⟨_, .of cl3, V.ref q2, atI_nat (j := 2) rfl, _, rfl, _, .of cq2, rfl, _, _, rfl, _, _, rfl, rfl, key _ _ _ ae rfl (by decide +kernel) (by decide +kernel) (by decide +kernel) rfl rfl ze⟩
      | 3, _ =>
        simp only [tSeq, tRet, tRetN, tAsg, tIf, tIfS, tNext, tTest, tB, cx_K, cx_w, cx_nK, cx_nw, tOp, tUn, tVar, tC, tCons, tNil, tTup, tLst, tF, tM1, tCB, tAnd, tOr, tNot, tAndV, tOrV, tNotV, tChain, tFld, tPart, tNoPart, tSl, rU, rI0, rI, rEq, rNe, rIxD, rIxL, rIxT, rLen, rIsi, rLenQ, rTupOf, rIn, rSlL, rNewStrs, rAppend, rCat, gUnl, tDrop, wipe, List.foldl_cons, List.foldl_nil, StX.tMakeR, sFld, tLenSetN, tDictZip, rIndex, rSorted, rSortedT, rSetOfT, tPar, tPar3, tBM, rSum, rAll, rAny, tNever, gName, gTup, gCons, gNil, L2.start, List.map_cons, List.map_nil, List.length_cons, List.length_nil, List.cons_append, List.nil_append, List.set_cons_zero, List.set_cons_succ, List.getElem?_cons_zero, List.getElem?_cons_succ, Option.some.injEq, V.int.injEq, V.str.injEq, V.bl.injEq, V.ref.injEq, V.ty.injEq, List.cons.injEq, exists_and_left, exists_and_right, exists_eq_left, exists_eq_left', exists_eq, exists_eq', and_true, true_and, exists_const, List.replicate, Nat.sub_self, Nat.reduceAdd, Nat.reduceSub, if_true, if_false, Bool.false_eq_true, ite_true, ite_false, reduceIte]
        exact ⟨_, .of cl3, V.ref q3, atI_nat (j := 3) rfl, _, rfl, _, .of cq3, rfl, _, _, rfl, _, _, rfl, rfl, key _ _ _ av rfl (by decide +kernel) (by decide +kernel) (by decide +kernel) rfl rfl zv⟩
      | 4, _ =>
        simp only [tSeq, tRet, tRetN, tAsg, tIf, tIfS, tNext, tTest, tB, cx_K, cx_w, cx_nK, cx_nw, tOp, tUn, tVar, tC, tCons, tNil, tTup, tLst, tF, tM1, tCB, tAnd, tOr, tNot, tAndV, tOrV, tNotV, tChain, tFld, tPart, tNoPart, tSl, rU, rI0, rI, rEq, rNe, rIxD, rIxL, rIxT, rLen, rIsi, rLenQ, rTupOf, rIn, rSlL, rNewStrs, rAppend, rCat, gUnl, tDrop, wipe, List.foldl_cons, List.foldl_nil, StX.tMakeR, sFld, tLenSetN, tDictZip, rIndex, rSorted, rSortedT, rSetOfT, tPar, tPar3, tBM, rSum, rAll, rAny, tNever, gName, gTup, gCons, gNil, L2.start, List.map_cons, List.map_nil, List.length_cons, List.length_nil, List.cons_append, List.nil_append, List.set_cons_zero, List.set_cons_succ, List.getElem?_cons_zero, List.getElem?_cons_succ, Option.some.injEq, V.int.injEq, V.str.injEq, V.bl.injEq, V.ref.injEq, V.ty.injEq, List.cons.injEq, exists_and_left, exists_and_right, exists_eq_left, exists_eq_left', exists_eq, exists_eq', and_true, true_and, exists_const, List.replicate, Nat.sub_self, Nat.reduceAdd, Nat.reduceSub, if_true, if_false, Bool.false_eq_true, ite_true, ite_false, reduceIte]
        exact ⟨_, .of cl3, V.ref q4, atI_nat (j := 4) rfl, _, rfl, _, .of cq4, rfl, _, _, rfl, _, _, rfl, rfl, key _ _ _ af rfl (by decide +kernel) (by decide +kernel) (by decide +kernel) rfl rfl zf⟩
      | 5, _ =>
        simp only [tSeq, tRet, tRetN, tAsg, tIf, tIfS, tNext, tTest, tB, cx_K, cx_w, cx_nK, cx_nw, tOp, tUn, tVar, tC, tCons, tNil, tTup, tLst, tF, tM1, tCB, tAnd, tOr, tNot, tAndV, tOrV, tNotV, tChain, tFld, tPart, tNoPart, tSl, rU, rI0, rI, rEq, rNe, rIxD, rIxL, rIxT, rLen, rIsi, rLenQ, rTupOf, rIn, rSlL, rNewStrs, rAppend, rCat, gUnl, tDrop, wipe, List.foldl_cons, List.foldl_nil, StX.tMakeR, sFld, tLenSetN, tDictZip, rIndex, rSorted, rSortedT, rSetOfT, tPar, tPar3, tBM, rSum, rAll, rAny, tNever, gName, gTup, gCons, gNil, L2.start, List.map_cons, List.map_nil, List.length_cons, List.length_nil, List.cons_append, List.nil_append, List.set_cons_zero, List.set_cons_succ, List.getElem?_cons_zero, List.getElem?_cons_succ, Option.some.injEq, V.int.injEq, V.str.injEq, V.bl.injEq, V.ref.injEq, V.ty.injEq, List.cons.injEq, exists_and_left, exists_and_right, exists_eq_left, exists_eq_left', exists_eq, exists_eq', and_true, true_and, exists_const, List.replicate, Nat.sub_self, Nat.reduceAdd, Nat.reduceSub, if_true, if_false, Bool.false_eq_true, ite_true, ite_false, reduceIte]
        exact ⟨_, .of cl3, V.ref q5, atI_nat (j := 5) rfl, _, rfl, _, .of cq5, rfl, _, _, rfl, _, _, rfl, rfl, key _ _ _ ae rfl (by decide +kernel) (by decide +kernel) (by decide +kernel) rfl rfl ze⟩
    · rw [decide_eq_false (show ¬ (p : Int) < 6 by omega)]
      refine iteF ?_
      rw [hB]; clear hA hB A B
      simp only [tSeq, tRet, tRetN, tAsg, tIf, tIfS, tNext, tTest, tB, cx_K, cx_w, cx_nK, cx_nw, tOp, tUn, tVar, tC, tCons, tNil, tTup, tLst, tF, tM1, tCB, tAnd, tOr, tNot, tAndV, tOrV, tNotV, tChain, tFld, tPart, tNoPart, tSl, rU, rI0, rI, rEq, rNe, rIxD, rIxL, rIxT, rLen, rIsi, rLenQ, rTupOf, rIn, rSlL, rNewStrs, rAppend, rCat, gUnl, tDrop, wipe, List.foldl_cons, List.foldl_nil, StX.tMakeR, sFld, tLenSetN, tDictZip, rIndex, rSorted, rSortedT, rSetOfT, tPar, tPar3, tBM, rSum, rAll, rAny, tNever, gName, gTup, gCons, gNil, L2.start, List.map_cons, List.map_nil, List.length_cons, List.length_nil, List.cons_append, List.nil_append, List.set_cons_zero, List.set_cons_succ, List.getElem?_cons_zero, List.getElem?_cons_succ, Option.some.injEq, V.int.injEq, V.str.injEq, V.bl.injEq, V.ref.injEq, V.ty.injEq, List.cons.injEq, exists_and_left, exists_and_right, exists_eq_left, exists_eq_left', exists_eq, exists_eq', and_true, true_and, exists_const, List.replicate, Nat.sub_self, Nat.reduceAdd, Nat.reduceSub, if_true, if_false, Bool.false_eq_true, ite_true, ite_false, reduceIte]
      rw [hR]; clear hR R
      refine seqG fun R hR => ?_
      refine ifG fun A B hA hB => ?_
      simp only [tSeq, tRet, tRetN, tAsg, tIf, tIfS, tNext, tTest, tB, cx_K, cx_w, cx_nK, cx_nw, tOp, tUn, tVar, tC, tCons, tNil, tTup, tLst, tF, tM1, tCB, tAnd, tOr, tNot, tAndV, tOrV, tNotV, tChain, tFld, tPart, tNoPart, tSl, rU, rI0, rI, rEq, rNe, rIxD, rIxL, rIxT, rLen, rIsi, rLenQ, rTupOf, rIn, rSlL, rNewStrs, rAppend, rCat, gUnl, tDrop, wipe, List.foldl_cons, List.foldl_nil, StX.tMakeR, sFld, tLenSetN, tDictZip, rIndex, rSorted, rSortedT, rSetOfT, tPar, tPar3, tBM, rSum, rAll, rAny, tNever, gName, gTup, gCons, gNil, L2.start, List.map_cons, List.map_nil, List.length_cons, List.length_nil, List.cons_append, List.nil_append, List.set_cons_zero, List.set_cons_succ, List.getElem?_cons_zero, List.getElem?_cons_succ, Option.some.injEq, V.int.injEq, V.str.injEq, V.bl.injEq, V.ref.injEq, V.ty.injEq, List.cons.injEq, exists_and_left, exists_and_right, exists_eq_left, exists_eq_left', exists_eq, exists_eq', and_true, true_and, exists_const, List.replicate, Nat.sub_self, Nat.reduceAdd, Nat.reduceSub, if_true, if_false, Bool.false_eq_true, ite_true, ite_false, reduceIte]
      refine ⟨rfl, ?_⟩
      by_cases h6 : p = 6
      · subst h6
        refine iteT ?_
        rw [hA]; clear hA hB A B hR
        simp only [tSeq, tRet, tRetN, tAsg, tIf, tIfS, tNext, tTest, tB, cx_K, cx_w, cx_nK, cx_nw, tOp, tUn, tVar, tC, tCons, tNil, tTup, tLst, tF, tM1, tCB, tAnd, tOr, tNot, tAndV, tOrV, tNotV, tChain, tFld, tPart, tNoPart, tSl, rU, rI0, rI, rEq, rNe, rIxD, rIxL, rIxT, rLen, rIsi, rLenQ, rTupOf, rIn, rSlL, rNewStrs, rAppend, rCat, gUnl, tDrop, wipe, List.foldl_cons, List.foldl_nil, StX.tMakeR, sFld, tLenSetN, tDictZip, rIndex, rSorted, rSortedT, rSetOfT, tPar, tPar3, tBM, rSum, rAll, rAny, tNever, gName, gTup, gCons, gNil, L2.start, List.map_cons, List.map_nil, List.length_cons, List.length_nil, List.cons_append, List.nil_append, List.set_cons_zero, List.set_cons_succ, List.getElem?_cons_zero, List.getElem?_cons_succ, Option.some.injEq, V.int.injEq, V.str.injEq, V.bl.injEq, V.ref.injEq, V.ty.injEq, List.cons.injEq, exists_and_left, exists_and_right, exists_eq_left, exists_eq_left', exists_eq, exists_eq', and_true, true_and, exists_const, List.replicate, Nat.sub_self, Nat.reduceAdd, Nat.reduceSub, if_true, if_false, Bool.false_eq_true, ite_true, ite_false, reduceIte]
        refine nest_made (ns := ⟨l0h, lin1, back⟩) (by decide +kernel) (by decide +kernel) (by decide +kernel) (ok_of (p := 6) rfl) fun Hn na sn _ en => prog_made (ps := [(na, ⟨l0h, lin1, back⟩)]) (by show 1 ≤ 4; decide) (fun q hq => by rw [List.mem_singleton] at hq; rw [hq]; exact en) fun Hp pa sp _ ep => ⟨by show 3 ≤ sizeLine; rw [sizeLine_eq]; decide, fun t ht => ?_⟩
        have s3 := sn.trans (sp.trans (Same.upd (o := .lst [V.ref pa, V.int (5 : Nat), V.ref ae]) (Same.refl _) ht))
        exact k _ t pa [(na, ⟨l0h, lin1, back⟩)] ae (st.trans s3) upd_same (ep.same (Same.upd (Same.refl _) ht)) (fun q hq => by rw [List.mem_singleton] at hq; rw [hq]; exact ok_of (p := 6) rfl) rfl (SizesAt.same ze s3)
      · rw [decide_eq_false (show ¬ (p : Int) = 6 by omega)]
        refine iteF ?_
        rw [hB]; clear hA hB A B
        simp only [tSeq, tRet, tRetN, tAsg, tIf, tIfS, tNext, tTest, tB, cx_K, cx_w, cx_nK, cx_nw, tOp, tUn, tVar, tC, tCons, tNil, tTup, tLst, tF, tM1, tCB, tAnd, tOr, tNot, tAndV, tOrV, tNotV, tChain, tFld, tPart, tNoPart, tSl, rU, rI0, rI, rEq, rNe, rIxD, rIxL, rIxT, rLen, rIsi, rLenQ, rTupOf, rIn, rSlL, rNewStrs, rAppend, rCat, gUnl, tDrop, wipe, List.foldl_cons, List.foldl_nil, StX.tMakeR, sFld, tLenSetN, tDictZip, rIndex, rSorted, rSortedT, rSetOfT, tPar, tPar3, tBM, rSum, rAll, rAny, tNever, gName, gTup, gCons, gNil, L2.start, List.map_cons, List.map_nil, List.length_cons, List.length_nil, List.cons_append, List.nil_append, List.set_cons_zero, List.set_cons_succ, List.getElem?_cons_zero, List.getElem?_cons_succ, Option.some.injEq, V.int.injEq, V.str.injEq, V.bl.injEq, V.ref.injEq, V.ty.injEq, List.cons.injEq, exists_and_left, exists_and_right, exists_eq_left, exists_eq_left', exists_eq, exists_eq', and_true, true_and, exists_const, List.replicate, Nat.sub_self, Nat.reduceAdd, Nat.reduceSub, if_true, if_false, Bool.false_eq_true, ite_true, ite_false, reduceIte]
        rw [hR]; clear hR R
        refine seqG fun R hR => ?_
        refine ifG fun A B hA hB => ?_
        simp only [tSeq, tRet, tRetN, tAsg, tIf, tIfS, tNext, tTest, tB, cx_K, cx_w, cx_nK, cx_nw, tOp, tUn, tVar, tC, tCons, tNil, tTup, tLst, tF, tM1, tCB, tAnd, tOr, tNot, tAndV, tOrV, tNotV, tChain, tFld, tPart, tNoPart, tSl, rU, rI0, rI, rEq, rNe, rIxD, rIxL, rIxT, rLen, rIsi, rLenQ, rTupOf, rIn, rSlL, rNewStrs, rAppend, rCat, gUnl, tDrop, wipe, List.foldl_cons, List.foldl_nil, StX.tMakeR, sFld, tLenSetN, tDictZip, rIndex, rSorted, rSortedT, rSetOfT, tPar, tPar3, tBM, rSum, rAll, rAny, tNever, gName, gTup, gCons, gNil, L2.start, List.map_cons, List.map_nil, List.length_cons, List.length_nil, List.cons_append, List.nil_append, List.set_cons_zero, List.set_cons_succ, List.getElem?_cons_zero, List.getElem?_cons_succ, Option.some.injEq, V.int.injEq, V.str.injEq, V.bl.injEq, V.ref.injEq, V.ty.injEq, List.cons.injEq, exists_and_left, exists_and_right, exists_eq_left, exists_eq_left', exists_eq, exists_eq', and_true, true_and, exists_const, List.replicate, Nat.sub_self, Nat.reduceAdd, Nat.reduceSub, if_true, if_false, Bool.false_eq_true, ite_true, ite_false, reduceIte]
        by_cases h10 : p < 10
        · rw [decide_eq_true (show (p : Int) < 10 by omega)]
          refine iteT ?_
          rw [hA]; clear hA hB A B hR
          refine seqG fun R2 hR2 => ?_
          simp only [tSeq, tRet, tRetN, tAsg, tIf, tIfS, tNext, tTest, tB, cx_K, cx_w, cx_nK, cx_nw, tOp, tUn, tVar, tC, tCons, tNil, tTup, tLst, tF, tM1, tCB, tAnd, tOr, tNot, tAndV, tOrV, tNotV, tChain, tFld, tPart, tNoPart, tSl, rU, rI0, rI, rEq, rNe, rIxD, rIxL, rIxT, rLen, rIsi, rLenQ, rTupOf, rIn, rSlL, rNewStrs, rAppend, rCat, gUnl, tDrop, wipe, List.foldl_cons, List.foldl_nil, StX.tMakeR, sFld, tLenSetN, tDictZip, rIndex, rSorted, rSortedT, rSetOfT, tPar, tPar3, tBM, rSum, rAll, rAny, tNever, gName, gTup, gCons, gNil, L2.start, List.map_cons, List.map_nil, List.length_cons, List.length_nil, List.cons_append, List.nil_append, List.set_cons_zero, List.set_cons_succ, List.getElem?_cons_zero, List.getElem?_cons_succ, Option.some.injEq, V.int.injEq, V.str.injEq, V.bl.injEq, V.ref.injEq, V.ty.injEq, List.cons.injEq, exists_and_left, exists_and_right, exists_eq_left, exists_eq_left', exists_eq, exists_eq', and_true, true_and, exists_const, List.replicate, Nat.sub_self, Nat.reduceAdd, Nat.reduceSub, if_true, if_false, Bool.false_eq_true, ite_true, ite_false, reduceIte]
          refine ⟨by show 3 ≤ sizeLine; rw [sizeLine_eq]; decide, fun l hl => ?_⟩
          obtain ⟨tl, cl⟩ := lst_new (xs := [V.str "i+1 to n", V.str "0 to i", V.str "0 to n"]) hl
          generalize upd H6 l (.lst [V.str "i+1 to n", V.str "0 to i", V.str "0 to n"]) = H7 at tl cl ⊢
          have st := st.trans tl
          have ze := ze.same tl
          have zv := zv.same tl
          have hpc : p = 7 ∨ p = 8 ∨ p = 9 := by omega
          rcases hpc with rfl | rfl | rfl
          · refine ⟨_, .of cl, V.str "i+1 to n", atI_eq (j := 0) (by decide) rfl, ?_⟩
            rw [hR2]; clear hR2 R2
            simp only [tSeq, tRet, tRetN, tAsg, tIf, tIfS, tNext, tTest, tB, cx_K, cx_w, cx_nK, cx_nw, tOp, tUn, tVar, tC, tCons, tNil, tTup, tLst, tF, tM1, tCB, tAnd, tOr, tNot, tAndV, tOrV, tNotV, tChain, tFld, tPart, tNoPart, tSl, rU, rI0, rI, rEq, rNe, rIxD, rIxL, rIxT, rLen, rIsi, rLenQ, rTupOf, rIn, rSlL, rNewStrs, rAppend, rCat, gUnl, tDrop, wipe, List.foldl_cons, List.foldl_nil, StX.tMakeR, sFld, tLenSetN, tDictZip, rIndex, rSorted, rSortedT, rSetOfT, tPar, tPar3, tBM, rSum, rAll, rAny, tNever, gName, gTup, gCons, gNil, L2.start, List.map_cons, List.map_nil, List.length_cons, List.length_nil, List.cons_append, List.nil_append, List.set_cons_zero, List.set_cons_succ, List.getElem?_cons_zero, List.getElem?_cons_succ, Option.some.injEq, V.int.injEq, V.str.injEq, V.bl.injEq, V.ref.injEq, V.ty.injEq, List.cons.injEq, exists_and_left, exists_and_right, exists_eq_left, exists_eq_left', exists_eq, exists_eq', and_true, true_and, exists_const, List.replicate, Nat.sub_self, Nat.reduceAdd, Nat.reduceSub, if_true, if_false, Bool.false_eq_true, ite_true, ite_false, reduceIte]
            refine nest_made (ns := ⟨l0n, ⟨.i1, .n, false⟩, sw (.i, .j) (.j, .i)⟩) (by decide +kernel) (by decide +kernel) (by decide +kernel) (ok_of (p := 7) rfl) fun Hn na sn _ en => prog_made (ps := [(na, ⟨l0n, ⟨.i1, .n, false⟩, sw (.i, .j) (.j, .i)⟩)]) (by show 1 ≤ 4; decide) (fun q hq => by rw [List.mem_singleton] at hq; rw [hq]; exact en) fun Hp pa sp _ ep => ⟨by show 3 ≤ sizeLine; rw [sizeLine_eq]; decide, fun l2 hl2 => ?_⟩
            obtain ⟨t2, c2⟩ := lst_new (xs := [V.int 1, V.int 1, V.int 0]) hl2
            generalize upd Hp l2 (.lst [V.int 1, V.int 1, V.int 0]) = H8 at t2 c2 ⊢
            refine ⟨_, .of c2, V.int 1, atI_eq (j := 0) (by decide) rfl, by show 3 ≤ sizeLine; rw [sizeLine_eq]; decide, fun t ht => ?_⟩
            have s4 := t2.trans (Same.upd (o := .lst [V.ref pa, V.int 1, V.ref ae]) (Same.refl _) ht)
            have s3 := sn.trans (sp.trans s4)
            exact k _ t pa [(na, ⟨l0n, ⟨.i1, .n, false⟩, sw (.i, .j) (.j, .i)⟩)] ae (st.trans s3) upd_same (ep.same s4) (fun q hq => by rw [List.mem_singleton] at hq; rw [hq]; exact ok_of (p := 7) rfl) rfl (SizesAt.same ze s3)
          · refine ⟨_, .of cl, V.str "0 to i", atI_eq (j := 1) (by decide) rfl, ?_⟩
            rw [hR2]; clear hR2 R2
            simp only [tSeq, tRet, tRetN, tAsg, tIf, tIfS, tNext, tTest, tB, cx_K, cx_w, cx_nK, cx_nw, tOp, tUn, tVar, tC, tCons, tNil, tTup, tLst, tF, tM1, tCB, tAnd, tOr, tNot, tAndV, tOrV, tNotV, tChain, tFld, tPart, tNoPart, tSl, rU, rI0, rI, rEq, rNe, rIxD, rIxL, rIxT, rLen, rIsi, rLenQ, rTupOf, rIn, rSlL, rNewStrs, rAppend, rCat, gUnl, tDrop, wipe, List.foldl_cons, List.foldl_nil, StX.tMakeR, sFld, tLenSetN, tDictZip, rIndex, rSorted, rSortedT, rSetOfT, tPar, tPar3, tBM, rSum, rAll, rAny, tNever, gName, gTup, gCons, gNil, L2.start, List.map_cons, List.map_nil, List.length_cons, List.length_nil, List.cons_append, List.nil_append, List.set_cons_zero, List.set_cons_succ, List.getElem?_cons_zero, List.getElem?_cons_succ, Option.some.injEq, V.int.injEq, V.str.injEq, V.bl.injEq, V.ref.injEq, V.ty.injEq, List.cons.injEq, exists_and_left, exists_and_right, exists_eq_left, exists_eq_left', exists_eq, exists_eq', and_true, true_and, exists_const, List.replicate, Nat.sub_self, Nat.reduceAdd, Nat.reduceSub, if_true, if_false, Bool.false_eq_true, ite_true, ite_false, reduceIte]
            refine nest_made (ns := ⟨l0n, ⟨.zero, .i, false⟩, sw (.i, .j) (.j, .i)⟩) (by decide +kernel) (by decide +kernel) (by decide +kernel) (ok_of (p := 8) rfl) fun Hn na sn _ en => prog_made (ps := [(na, ⟨l0n, ⟨.zero, .i, false⟩, sw (.i, .j) (.j, .i)⟩)]) (by show 1 ≤ 4; decide) (fun q hq => by rw [List.mem_singleton] at hq; rw [hq]; exact en) fun Hp pa sp _ ep => ⟨by show 3 ≤ sizeLine; rw [sizeLine_eq]; decide, fun l2 hl2 => ?_⟩
            obtain ⟨t2, c2⟩ := lst_new (xs := [V.int 1, V.int 1, V.int 0]) hl2
            generalize upd Hp l2 (.lst [V.int 1, V.int 1, V.int 0]) = H8 at t2 c2 ⊢
            refine ⟨_, .of c2, V.int 1, atI_eq (j := 1) (by decide) rfl, by show 3 ≤ sizeLine; rw [sizeLine_eq]; decide, fun t ht => ?_⟩
            have s4 := t2.trans (Same.upd (o := .lst [V.ref pa, V.int 1, V.ref ae]) (Same.refl _) ht)
            have s3 := sn.trans (sp.trans s4)
            exact k _ t pa [(na, ⟨l0n, ⟨.zero, .i, false⟩, sw (.i, .j) (.j, .i)⟩)] ae (st.trans s3) upd_same (ep.same s4) (fun q hq => by rw [List.mem_singleton] at hq; rw [hq]; exact ok_of (p := 8) rfl) rfl (SizesAt.same ze s3)
          · refine ⟨_, .of cl, V.str "0 to n", atI_eq (j := 2) (by decide) rfl, ?_⟩
            rw [hR2]; clear hR2 R2
            simp only [tSeq, tRet, tRetN, tAsg, tIf, tIfS, tNext, tTest, tB, cx_K, cx_w, cx_nK, cx_nw, tOp, tUn, tVar, tC, tCons, tNil, tTup, tLst, tF, tM1, tCB, tAnd, tOr, tNot, tAndV, tOrV, tNotV, tChain, tFld, tPart, tNoPart, tSl, rU, rI0, rI, rEq, rNe, rIxD, rIxL, rIxT, rLen, rIsi, rLenQ, rTupOf, rIn, rSlL, rNewStrs, rAppend, rCat, gUnl, tDrop, wipe, List.foldl_cons, List.foldl_nil, StX.tMakeR, sFld, tLenSetN, tDictZip, rIndex, rSorted, rSortedT, rSetOfT, tPar, tPar3, tBM, rSum, rAll, rAny, tNever, gName, gTup, gCons, gNil, L2.start, List.map_cons, List.map_nil, List.length_cons, List.length_nil, List.cons_append, List.nil_append, List.set_cons_zero, List.set_cons_succ, List.getElem?_cons_zero, List.getElem?_cons_succ, Option.some.injEq, V.int.injEq, V.str.injEq, V.bl.injEq, V.ref.injEq, V.ty.injEq, List.cons.injEq, exists_and_left, exists_and_right, exists_eq_left, exists_eq_left', exists_eq, exists_eq', and_true, true_and, exists_const, List.replicate, Nat.sub_self, Nat.reduceAdd, Nat.reduceSub, if_true, if_false, Bool.false_eq_true, ite_true, ite_false, reduceIte]
            refine nest_made (ns := ⟨l0n, l0n, sw (.i, .j) (.j, .i)⟩) (by decide +kernel) (by decide +kernel) (by decide +kernel) (ok_of (p := 9) rfl) fun Hn na sn _ en => prog_made (ps := [(na, ⟨l0n, l0n, sw (.i, .j) (.j, .i)⟩)]) (by show 1 ≤ 4; decide) (fun q hq => by rw [List.mem_singleton] at hq; rw [hq]; exact en) fun Hp pa sp _ ep => ⟨by show 3 ≤ sizeLine; rw [sizeLine_eq]; decide, fun l2 hl2 => ?_⟩
            obtain ⟨t2, c2⟩ := lst_new (xs := [V.int 1, V.int 1, V.int 0]) hl2
            generalize upd Hp l2 (.lst [V.int 1, V.int 1, V.int 0]) = H8 at t2 c2 ⊢
            refine ⟨_, .of c2, V.int 0, atI_eq (j := 2) (by decide) rfl, by show 3 ≤ sizeLine; rw [sizeLine_eq]; decide, fun t ht => ?_⟩
            have s4 := t2.trans (Same.upd (o := .lst [V.ref pa, V.int 0, V.ref ae]) (Same.refl _) ht)
            have s3 := sn.trans (sp.trans s4)
            exact k _ t pa [(na, ⟨l0n, l0n, sw (.i, .j) (.j, .i)⟩)] ae (st.trans s3) upd_same (ep.same s4) (fun q hq => by rw [List.mem_singleton] at hq; rw [hq]; exact ok_of (p := 9) rfl) rfl (SizesAt.same ze s3)
        · rw [decide_eq_false (show ¬ (p : Int) < 10 by omega)]
          refine iteF ?_
          rw [hB]; clear hA hB A B
          simp only [tSeq, tRet, tRetN, tAsg, tIf, tIfS, tNext, tTest, tB, cx_K, cx_w, cx_nK, cx_nw, tOp, tUn, tVar, tC, tCons, tNil, tTup, tLst, tF, tM1, tCB, tAnd, tOr, tNot, tAndV, tOrV, tNotV, tChain, tFld, tPart, tNoPart, tSl, rU, rI0, rI, rEq, rNe, rIxD, rIxL, rIxT, rLen, rIsi, rLenQ, rTupOf, rIn, rSlL, rNewStrs, rAppend, rCat, gUnl, tDrop, wipe, List.foldl_cons, List.foldl_nil, StX.tMakeR, sFld, tLenSetN, tDictZip, rIndex, rSorted, rSortedT, rSetOfT, tPar, tPar3, tBM, rSum, rAll, rAny, tNever, gName, gTup, gCons, gNil, L2.start, List.map_cons, List.map_nil, List.length_cons, List.length_nil, List.cons_append, List.nil_append, List.set_cons_zero, List.set_cons_succ, List.getElem?_cons_zero, List.getElem?_cons_succ, Option.some.injEq, V.int.injEq, V.str.injEq, V.bl.injEq, V.ref.injEq, V.ty.injEq, List.cons.injEq, exists_and_left, exists_and_right, exists_eq_left, exists_eq_left', exists_eq, exists_eq', and_true, true_and, exists_const, List.replicate, Nat.sub_self, Nat.reduceAdd, Nat.reduceSub, if_true, if_false, Bool.false_eq_true, ite_true, ite_false, reduceIte]
          rw [hR]; clear hR R
          refine seqG fun R hR => ?_
          refine ifG fun A B hA hB => ?_
          simp only [tSeq, tRet, tRetN, tAsg, tIf, tIfS, tNext, tTest, tB, cx_K, cx_w, cx_nK, cx_nw, tOp, tUn, tVar, tC, tCons, tNil, tTup, tLst, tF, tM1, tCB, tAnd, tOr, tNot, tAndV, tOrV, tNotV, tChain, tFld, tPart, tNoPart, tSl, rU, rI0, rI, rEq, rNe, rIxD, rIxL, rIxT, rLen, rIsi, rLenQ, rTupOf, rIn, rSlL, rNewStrs, rAppend, rCat, gUnl, tDrop, wipe, List.foldl_cons, List.foldl_nil, StX.tMakeR, sFld, tLenSetN, tDictZip, rIndex, rSorted, rSortedT, rSetOfT, tPar, tPar3, tBM, rSum, rAll, rAny, tNever, gName, gTup, gCons, gNil, L2.start, List.map_cons, List.map_nil, List.length_cons, List.length_nil, List.cons_append, List.nil_append, List.set_cons_zero, List.set_cons_succ, List.getElem?_cons_zero, List.getElem?_cons_succ, Option.some.injEq, V.int.injEq, V.str.injEq, V.bl.injEq, V.ref.injEq, V.ty.injEq, List.cons.injEq, exists_and_left, exists_and_right, exists_eq_left, exists_eq_left', exists_eq, exists_eq', and_true, true_and, exists_const, List.replicate, Nat.sub_self, Nat.reduceAdd, Nat.reduceSub, if_true, if_false, Bool.false_eq_true, ite_true, ite_false, reduceIte]
          by_cases h13 : p < 13
          · rw [decide_eq_true (show (p : Int) < 13 by omega)]
            refine iteT ?_
            rw [hA]; clear hA hB A B hR
            refine seqG fun R2 hR2 => ?_
            simp only [tSeq, tRet, tRetN, tAsg, tIf, tIfS, tNext, tTest, tB, cx_K, cx_w, cx_nK, cx_nw, tOp, tUn, tVar, tC, tCons, tNil, tTup, tLst, tF, tM1, tCB, tAnd, tOr, tNot, tAndV, tOrV, tNotV, tChain, tFld, tPart, tNoPart, tSl, rU, rI0, rI, rEq, rNe, rIxD, rIxL, rIxT, rLen, rIsi, rLenQ, rTupOf, rIn, rSlL, rNewStrs, rAppend, rCat, gUnl, tDrop, wipe, List.foldl_cons, List.foldl_nil, StX.tMakeR, sFld, tLenSetN, tDictZip, rIndex, rSorted, rSortedT, rSetOfT, tPar, tPar3, tBM, rSum, rAll, rAny, tNever, gName, gTup, gCons, gNil, L2.start, List.map_cons, List.map_nil, List.length_cons, List.length_nil, List.cons_append, List.nil_append, List.set_cons_zero, List.set_cons_succ, List.getElem?_cons_zero, List.getElem?_cons_succ, Option.some.injEq, V.int.injEq, V.str.injEq, V.bl.injEq, V.ref.injEq, V.ty.injEq, List.cons.injEq, exists_and_left, exists_and_right, exists_eq_left, exists_eq_left', exists_eq, exists_eq', and_true, true_and, exists_const, List.replicate, Nat.sub_self, Nat.reduceAdd, Nat.reduceSub, if_true, if_false, Bool.false_eq_true, ite_true, ite_false, reduceIte]
            refine ⟨by show 3 ≤ sizeLine; rw [sizeLine_eq]; decide, fun l hl => ?_⟩
            obtain ⟨tl, cl⟩ := lst_new (xs := [V.str "0 to n//2", V.str "0 to (n+1)//2", V.str "0 to n"]) hl
            generalize upd H6 l (.lst [V.str "0 to n//2", V.str "0 to (n+1)//2", V.str "0 to n"]) = H7 at tl cl ⊢
            have st := st.trans tl
            have ze := ze.same tl
            have zv := zv.same tl
            have hpc : p = 10 ∨ p = 11 ∨ p = 12 := by omega
            rcases hpc with rfl | rfl | rfl
            · refine ⟨_, .of cl, V.str "0 to n//2", atI_eq (j := 0) (by decide) rfl, ?_⟩
              rw [hR2]; clear hR2 R2
              simp only [tSeq, tRet, tRetN, tAsg, tIf, tIfS, tNext, tTest, tB, cx_K, cx_w, cx_nK, cx_nw, tOp, tUn, tVar, tC, tCons, tNil, tTup, tLst, tF, tM1, tCB, tAnd, tOr, tNot, tAndV, tOrV, tNotV, tChain, tFld, tPart, tNoPart, tSl, rU, rI0, rI, rEq, rNe, rIxD, rIxL, rIxT, rLen, rIsi, rLenQ, rTupOf, rIn, rSlL, rNewStrs, rAppend, rCat, gUnl, tDrop, wipe, List.foldl_cons, List.foldl_nil, StX.tMakeR, sFld, tLenSetN, tDictZip, rIndex, rSorted, rSortedT, rSetOfT, tPar, tPar3, tBM, rSum, rAll, rAny, tNever, gName, gTup, gCons, gNil, L2.start, List.map_cons, List.map_nil, List.length_cons, List.length_nil, List.cons_append, List.nil_append, List.set_cons_zero, List.set_cons_succ, List.getElem?_cons_zero, List.getElem?_cons_succ, Option.some.injEq, V.int.injEq, V.str.injEq, V.bl.injEq, V.ref.injEq, V.ty.injEq, List.cons.injEq, exists_and_left, exists_and_right, exists_eq_left, exists_eq_left', exists_eq, exists_eq', and_true, true_and, exists_const, List.replicate, Nat.sub_self, Nat.reduceAdd, Nat.reduceSub, if_true, if_false, Bool.false_eq_true, ite_true, ite_false, reduceIte]
              refine nest_made (ns := ⟨l0h, l0n, sw (.i, .j) (.ni, .j)⟩) (by decide +kernel) (by decide +kernel) (by decide +kernel) (ok_of (p := 10) rfl) fun Hn na sn _ en => prog_made (ps := [(na, ⟨l0h, l0n, sw (.i, .j) (.ni, .j)⟩)]) (by show 1 ≤ 4; decide) (fun q hq => by rw [List.mem_singleton] at hq; rw [hq]; exact en) fun Hp pa sp _ ep => ⟨by show 3 ≤ sizeLine; rw [sizeLine_eq]; decide, fun l2 hl2 => ?_⟩
              obtain ⟨t2, c2⟩ := lst_new (xs := [V.int 4, V.int 4, V.int 0]) hl2
              generalize upd Hp l2 (.lst [V.int 4, V.int 4, V.int 0]) = H8 at t2 c2 ⊢
              refine ⟨_, .of c2, V.int 4, atI_eq (j := 0) (by decide) rfl, by show 3 ≤ sizeLine; rw [sizeLine_eq]; decide, fun t ht => ?_⟩
              have s4 := t2.trans (Same.upd (o := .lst [V.ref pa, V.int 4, V.ref ae]) (Same.refl _) ht)
              have s3 := sn.trans (sp.trans s4)
              exact k _ t pa [(na, ⟨l0h, l0n, sw (.i, .j) (.ni, .j)⟩)] ae (st.trans s3) upd_same (ep.same s4) (fun q hq => by rw [List.mem_singleton] at hq; rw [hq]; exact ok_of (p := 10) rfl) rfl (SizesAt.same ze s3)
            · refine ⟨_, .of cl, V.str "0 to (n+1)//2", atI_eq (j := 1) (by decide) rfl, ?_⟩
              rw [hR2]; clear hR2 R2
              simp only [tSeq, tRet, tRetN, tAsg, tIf, tIfS, tNext, tTest, tB, cx_K, cx_w, cx_nK, cx_nw, tOp, tUn, tVar, tC, tCons, tNil, tTup, tLst, tF, tM1, tCB, tAnd, tOr, tNot, tAndV, tOrV, tNotV, tChain, tFld, tPart, tNoPart, tSl, rU, rI0, rI, rEq, rNe, rIxD, rIxL, rIxT, rLen, rIsi, rLenQ, rTupOf, rIn, rSlL, rNewStrs, rAppend, rCat, gUnl, tDrop, wipe, List.foldl_cons, List.foldl_nil, StX.tMakeR, sFld, tLenSetN, tDictZip, rIndex, rSorted, rSortedT, rSetOfT, tPar, tPar3, tBM, rSum, rAll, rAny, tNever, gName, gTup, gCons, gNil, L2.start, List.map_cons, List.map_nil, List.length_cons, List.length_nil, List.cons_append, List.nil_append, List.set_cons_zero, List.set_cons_succ, List.getElem?_cons_zero, List.getElem?_cons_succ, Option.some.injEq, V.int.injEq, V.str.injEq, V.bl.injEq, V.ref.injEq, V.ty.injEq, List.cons.injEq, exists_and_left, exists_and_right, exists_eq_left, exists_eq_left', exists_eq, exists_eq', and_true, true_and, exists_const, List.replicate, Nat.sub_self, Nat.reduceAdd, Nat.reduceSub, if_true, if_false, Bool.false_eq_true, ite_true, ite_false, reduceIte]
              refine nest_made (ns := ⟨l0u, l0n, sw (.i, .j) (.ni, .j)⟩) (by decide +kernel) (by decide +kernel) (by decide +kernel) (ok_of (p := 11) rfl) fun Hn na sn _ en => prog_made (ps := [(na, ⟨l0u, l0n, sw (.i, .j) (.ni, .j)⟩)]) (by show 1 ≤ 4; decide) (fun q hq => by rw [List.mem_singleton] at hq; rw [hq]; exact en) fun Hp pa sp _ ep => ⟨by show 3 ≤ sizeLine; rw [sizeLine_eq]; decide, fun l2 hl2 => ?_⟩
              obtain ⟨t2, c2⟩ := lst_new (xs := [V.int 4, V.int 4, V.int 0]) hl2
              generalize upd Hp l2 (.lst [V.int 4, V.int 4, V.int 0]) = H8 at t2 c2 ⊢
              refine ⟨_, .of c2, V.int 4, atI_eq (j := 1) (by decide) rfl, by show 3 ≤ sizeLine; rw [sizeLine_eq]; decide, fun t ht => ?_⟩
              have s4 := t2.trans (Same.upd (o := .lst [V.ref pa, V.int 4, V.ref ae]) (Same.refl _) ht)
              have s3 := sn.trans (sp.trans s4)
              exact k _ t pa [(na, ⟨l0u, l0n, sw (.i, .j) (.ni, .j)⟩)] ae (st.trans s3) upd_same (ep.same s4) (fun q hq => by rw [List.mem_singleton] at hq; rw [hq]; exact ok_of (p := 11) rfl) rfl (SizesAt.same ze s3)
            · refine ⟨_, .of cl, V.str "0 to n", atI_eq (j := 2) (by decide) rfl, ?_⟩
              rw [hR2]; clear hR2 R2
              simp only [tSeq, tRet, tRetN, tAsg, tIf, tIfS, tNext, tTest, tB, cx_K, cx_w, cx_nK, cx_nw, tOp, tUn, tVar, tC, tCons, tNil, tTup, tLst, tF, tM1, tCB, tAnd, tOr, tNot, tAndV, tOrV, tNotV, tChain, tFld, tPart, tNoPart, tSl, rU, rI0, rI, rEq, rNe, rIxD, rIxL, rIxT, rLen, rIsi, rLenQ, rTupOf, rIn, rSlL, rNewStrs, rAppend, rCat, gUnl, tDrop, wipe, List.foldl_cons, List.foldl_nil, StX.tMakeR, sFld, tLenSetN, tDictZip, rIndex, rSorted, rSortedT, rSetOfT, tPar, tPar3, tBM, rSum, rAll, rAny, tNever, gName, gTup, gCons, gNil, L2.start, List.map_cons, List.map_nil, List.length_cons, List.length_nil, List.cons_append, List.nil_append, List.set_cons_zero, List.set_cons_succ, List.getElem?_cons_zero, List.getElem?_cons_succ, Option.some.injEq, V.int.injEq, V.str.injEq, V.bl.injEq, V.ref.injEq, V.ty.injEq, List.cons.injEq, exists_and_left, exists_and_right, exists_eq_left, exists_eq_left', exists_eq, exists_eq', and_true, true_and, exists_const, List.replicate, Nat.sub_self, Nat.reduceAdd, Nat.reduceSub, if_true, if_false, Bool.false_eq_true, ite_true, ite_false, reduceIte]
              refine nest_made (ns := ⟨l0n, l0n, sw (.i, .j) (.ni, .j)⟩) (by decide +kernel) (by decide +kernel) (by decide +kernel) (ok_of (p := 12) rfl) fun Hn na sn _ en => prog_made (ps := [(na, ⟨l0n, l0n, sw (.i, .j) (.ni, .j)⟩)]) (by show 1 ≤ 4; decide) (fun q hq => by rw [List.mem_singleton] at hq; rw [hq]; exact en) fun Hp pa sp _ ep => ⟨by show 3 ≤ sizeLine; rw [sizeLine_eq]; decide, fun l2 hl2 => ?_⟩
              obtain ⟨t2, c2⟩ := lst_new (xs := [V.int 4, V.int 4, V.int 0]) hl2
              generalize upd Hp l2 (.lst [V.int 4, V.int 4, V.int 0]) = H8 at t2 c2 ⊢
              refine ⟨_, .of c2, V.int 0, atI_eq (j := 2) (by decide) rfl, by show 3 ≤ sizeLine; rw [sizeLine_eq]; decide, fun t ht => ?_⟩
              have s4 := t2.trans (Same.upd (o := .lst [V.ref pa, V.int 0, V.ref ae]) (Same.refl _) ht)
              have s3 := sn.trans (sp.trans s4)
              exact k _ t pa [(na, ⟨l0n, l0n, sw (.i, .j) (.ni, .j)⟩)] ae (st.trans s3) upd_same (ep.same s4) (fun q hq => by rw [List.mem_singleton] at hq; rw [hq]; exact ok_of (p := 12) rfl) rfl (SizesAt.same ze s3)
          · rw [decide_eq_false (show ¬ (p : Int) < 13 by omega)]
            refine iteF ?_
            rw [hB]; clear hA hB A B
            simp only [tSeq, tRet, tRetN, tAsg, tIf, tIfS, tNext, tTest, tB, cx_K, cx_w, cx_nK, cx_nw, tOp, tUn, tVar, tC, tCons, tNil, tTup, tLst, tF, tM1, tCB, tAnd, tOr, tNot, tAndV, tOrV, tNotV, tChain, tFld, tPart, tNoPart, tSl, rU, rI0, rI, rEq, rNe, rIxD, rIxL, rIxT, rLen, rIsi, rLenQ, rTupOf, rIn, rSlL, rNewStrs, rAppend, rCat, gUnl, tDrop, wipe, List.foldl_cons, List.foldl_nil, StX.tMakeR, sFld, tLenSetN, tDictZip, rIndex, rSorted, rSortedT, rSetOfT, tPar, tPar3, tBM, rSum, rAll, rAny, tNever, gName, gTup, gCons, gNil, L2.start, List.map_cons, List.map_nil, List.length_cons, List.length_nil, List.cons_append, List.nil_append, List.set_cons_zero, List.set_cons_succ, List.getElem?_cons_zero, List.getElem?_cons_succ, Option.some.injEq, V.int.injEq, V.str.injEq, V.bl.injEq, V.ref.injEq, V.ty.injEq, List.cons.injEq, exists_and_left, exists_and_right, exists_eq_left, exists_eq_left', exists_eq, exists_eq', and_true, true_and, exists_const, List.replicate, Nat.sub_self, Nat.reduceAdd, Nat.reduceSub, if_true, if_false, Bool.false_eq_true, ite_true, ite_false, reduceIte]
            rw [hR]; clear hR R
            refine seqG fun R hR => ?_
            refine ifG fun A B hA hB => ?_
            simp only [tSeq, tRet, tRetN, tAsg, tIf, tIfS, tNext, tTest, tB, cx_K, cx_w, cx_nK, cx_nw, tOp, tUn, tVar, tC, tCons, tNil, tTup, tLst, tF, tM1, tCB, tAnd, tOr, tNot, tAndV, tOrV, tNotV, tChain, tFld, tPart, tNoPart, tSl, rU, rI0, rI, rEq, rNe, rIxD, rIxL, rIxT, rLen, rIsi, rLenQ, rTupOf, rIn, rSlL, rNewStrs, rAppend, rCat, gUnl, tDrop, wipe, List.foldl_cons, List.foldl_nil, StX.tMakeR, sFld, tLenSetN, tDictZip, rIndex, rSorted, rSortedT, rSetOfT, tPar, tPar3, tBM, rSum, rAll, rAny, tNever, gName, gTup, gCons, gNil, L2.start, List.map_cons, List.map_nil, List.length_cons, List.length_nil, List.cons_append, List.nil_append, List.set_cons_zero, List.set_cons_succ, List.getElem?_cons_zero, List.getElem?_cons_succ, Option.some.injEq, V.int.injEq, V.str.injEq, V.bl.injEq, V.ref.injEq, V.ty.injEq, List.cons.injEq, exists_and_left, exists_and_right, exists_eq_left, exists_eq_left', exists_eq, exists_eq', and_true, true_and, exists_const, List.replicate, Nat.sub_self, Nat.reduceAdd, Nat.reduceSub, if_true, if_false, Bool.false_eq_true, ite_true, ite_false, reduceIte]
            refine ⟨rfl, ?_⟩
            by_cases h13 : p = 13
            · subst h13
              refine iteT ?_
              rw [hA]; clear hA hB A B hR
              simp only [tSeq, tRet, tRetN, tAsg, tIf, tIfS, tNext, tTest, tB, cx_K, cx_w, cx_nK, cx_nw, tOp, tUn, tVar, tC, tCons, tNil, tTup, tLst, tF, tM1, tCB, tAnd, tOr, tNot, tAndV, tOrV, tNotV, tChain, tFld, tPart, tNoPart, tSl, rU, rI0, rI, rEq, rNe, rIxD, rIxL, rIxT, rLen, rIsi, rLenQ, rTupOf, rIn, rSlL, rNewStrs, rAppend, rCat, gUnl, tDrop, wipe, List.foldl_cons, List.foldl_nil, StX.tMakeR, sFld, tLenSetN, tDictZip, rIndex, rSorted, rSortedT, rSetOfT, tPar, tPar3, tBM, rSum, rAll, rAny, tNever, gName, gTup, gCons, gNil, L2.start, List.map_cons, List.map_nil, List.length_cons, List.length_nil, List.cons_append, List.nil_append, List.set_cons_zero, List.set_cons_succ, List.getElem?_cons_zero, List.getElem?_cons_succ, Option.some.injEq, V.int.injEq, V.str.injEq, V.bl.injEq, V.ref.injEq, V.ty.injEq, List.cons.injEq, exists_and_left, exists_and_right, exists_eq_left, exists_eq_left', exists_eq, exists_eq', and_true, true_and, exists_const, List.replicate, Nat.sub_self, Nat.reduceAdd, Nat.reduceSub, if_true, if_false, Bool.false_eq_true, ite_true, ite_false, reduceIte]
              refine nest_made (ns := ⟨l0n, l0h, sw (.i, .j) (.i, .nj)⟩) (by decide +kernel) (by decide +kernel) (by decide +kernel) (ok_of (p := 13) rfl) fun Hn na sn _ en => prog_made (ps := [(na, ⟨l0n, l0h, sw (.i, .j) (.i, .nj)⟩)]) (by show 1 ≤ 4; decide) (fun q hq => by rw [List.mem_singleton] at hq; rw [hq]; exact en) fun Hp pa sp _ ep => ⟨by show 3 ≤ sizeLine; rw [sizeLine_eq]; decide, fun t ht => ?_⟩
              have s3 := sn.trans (sp.trans (Same.upd (o := .lst [V.ref pa, V.int (2 : Nat), V.ref ae]) (Same.refl _) ht))
              exact k _ t pa [(na, ⟨l0n, l0h, sw (.i, .j) (.i, .nj)⟩)] ae (st.trans s3) upd_same (ep.same (Same.upd (Same.refl _) ht)) (fun q hq => by rw [List.mem_singleton] at hq; rw [hq]; exact ok_of (p := 13) rfl) rfl (SizesAt.same ze s3)
            · rw [decide_eq_false (show ¬ (p : Int) = 13 by omega)]
              refine iteF ?_
              rw [hB]; clear hA hB A B
              simp only [tSeq, tRet, tRetN, tAsg, tIf, tIfS, tNext, tTest, tB, cx_K, cx_w, cx_nK, cx_nw, tOp, tUn, tVar, tC, tCons, tNil, tTup, tLst, tF, tM1, tCB, tAnd, tOr, tNot, tAndV, tOrV, tNotV, tChain, tFld, tPart, tNoPart, tSl, rU, rI0, rI, rEq, rNe, rIxD, rIxL, rIxT, rLen, rIsi, rLenQ, rTupOf, rIn, rSlL, rNewStrs, rAppend, rCat, gUnl, tDrop, wipe, List.foldl_cons, List.foldl_nil, StX.tMakeR, sFld, tLenSetN, tDictZip, rIndex, rSorted, rSortedT, rSetOfT, tPar, tPar3, tBM, rSum, rAll, rAny, tNever, gName, gTup, gCons, gNil, L2.start, List.map_cons, List.map_nil, List.length_cons, List.length_nil, List.cons_append, List.nil_append, List.set_cons_zero, List.set_cons_succ, List.getElem?_cons_zero, List.getElem?_cons_succ, Option.some.injEq, V.int.injEq, V.str.injEq, V.bl.injEq, V.ref.injEq, V.ty.injEq, List.cons.injEq, exists_and_left, exists_and_right, exists_eq_left, exists_eq_left', exists_eq, exists_eq', and_true, true_and, exists_const, List.replicate, Nat.sub_self, Nat.reduceAdd, Nat.reduceSub, if_true, if_false, Bool.false_eq_true, ite_true, ite_false, reduceIte]
              rw [hR]; clear hR R
              refine seqG fun R hR => ?_
              refine ifG fun A B hA hB => ?_
              simp only [tSeq, tRet, tRetN, tAsg, tIf, tIfS, tNext, tTest, tB, cx_K, cx_w, cx_nK, cx_nw, tOp, tUn, tVar, tC, tCons, tNil, tTup, tLst, tF, tM1, tCB, tAnd, tOr, tNot, tAndV, tOrV, tNotV, tChain, tFld, tPart, tNoPart, tSl, rU, rI0, rI, rEq, rNe, rIxD, rIxL, rIxT, rLen, rIsi, rLenQ, rTupOf, rIn, rSlL, rNewStrs, rAppend, rCat, gUnl, tDrop, wipe, List.foldl_cons, List.foldl_nil, StX.tMakeR, sFld, tLenSetN, tDictZip, rIndex, rSorted, rSortedT, rSetOfT, tPar, tPar3, tBM, rSum, rAll, rAny, tNever, gName, gTup, gCons, gNil, L2.start, List.map_cons, List.map_nil, List.length_cons, List.length_nil, List.cons_append, List.nil_append, List.set_cons_zero, List.set_cons_succ, List.getElem?_cons_zero, List.getElem?_cons_succ, Option.some.injEq, V.int.injEq, V.str.injEq, V.bl.injEq, V.ref.injEq, V.ty.injEq, List.cons.injEq, exists_and_left, exists_and_right, exists_eq_left, exists_eq_left', exists_eq, exists_eq', and_true, true_and, exists_const, List.replicate, Nat.sub_self, Nat.reduceAdd, Nat.reduceSub, if_true, if_false, Bool.false_eq_true, ite_true, ite_false, reduceIte]
              by_cases h16 : p < 16
              · rw [decide_eq_true (show (p : Int) < 16 by omega)]
                refine iteT ?_
                rw [hA]; clear hA hB A B hR
                refine seqG fun R2 hR2 => ?_
                simp only [tSeq, tRet, tRetN, tAsg, tIf, tIfS, tNext, tTest, tB, cx_K, cx_w, cx_nK, cx_nw, tOp, tUn, tVar, tC, tCons, tNil, tTup, tLst, tF, tM1, tCB, tAnd, tOr, tNot, tAndV, tOrV, tNotV, tChain, tFld, tPart, tNoPart, tSl, rU, rI0, rI, rEq, rNe, rIxD, rIxL, rIxT, rLen, rIsi, rLenQ, rTupOf, rIn, rSlL, rNewStrs, rAppend, rCat, gUnl, tDrop, wipe, List.foldl_cons, List.foldl_nil, StX.tMakeR, sFld, tLenSetN, tDictZip, rIndex, rSorted, rSortedT, rSetOfT, tPar, tPar3, tBM, rSum, rAll, rAny, tNever, gName, gTup, gCons, gNil, L2.start, List.map_cons, List.map_nil, List.length_cons, List.length_nil, List.cons_append, List.nil_append, List.set_cons_zero, List.set_cons_succ, List.getElem?_cons_zero, List.getElem?_cons_succ, Option.some.injEq, V.int.injEq, V.str.injEq, V.bl.injEq, V.ref.injEq, V.ty.injEq, List.cons.injEq, exists_and_left, exists_and_right, exists_eq_left, exists_eq_left', exists_eq, exists_eq', and_true, true_and, exists_const, List.replicate, Nat.sub_self, Nat.reduceAdd, Nat.reduceSub, if_true, if_false, Bool.false_eq_true, ite_true, ite_false, reduceIte]
                refine ⟨by show 2 ≤ sizeLine; rw [sizeLine_eq]; decide, fun l hl => ?_⟩
                obtain ⟨tl, cl⟩ := lst_new (xs := [V.str "0 to n//2", V.str "0 to (n+1)//2"]) hl
                generalize upd H6 l (.lst [V.str "0 to n//2", V.str "0 to (n+1)//2"]) = H7 at tl cl ⊢
                have st := st.trans tl
                have ze := ze.same tl
                have zv := zv.same tl
                have hpc : p = 14 ∨ p = 15 := by omega
                rcases hpc with rfl | rfl
                · refine ⟨_, .of cl, V.str "0 to n//2", atI_eq (j := 0) (by decide) rfl, ?_⟩
                  rw [hR2]; clear hR2 R2
                  simp only [tSeq, tRet, tRetN, tAsg, tIf, tIfS, tNext, tTest, tB, cx_K, cx_w, cx_nK, cx_nw, tOp, tUn, tVar, tC, tCons, tNil, tTup, tLst, tF, tM1, tCB, tAnd, tOr, tNot, tAndV, tOrV, tNotV, tChain, tFld, tPart, tNoPart, tSl, rU, rI0, rI, rEq, rNe, rIxD, rIxL, rIxT, rLen, rIsi, rLenQ, rTupOf, rIn, rSlL, rNewStrs, rAppend, rCat, gUnl, tDrop, wipe, List.foldl_cons, List.foldl_nil, StX.tMakeR, sFld, tLenSetN, tDictZip, rIndex, rSorted, rSortedT, rSetOfT, tPar, tPar3, tBM, rSum, rAll, rAny, tNever, gName, gTup, gCons, gNil, L2.start, List.map_cons, List.map_nil, List.length_cons, List.length_nil, List.cons_append, List.nil_append, List.set_cons_zero, List.set_cons_succ, List.getElem?_cons_zero, List.getElem?_cons_succ, Option.some.injEq, V.int.injEq, V.str.injEq, V.bl.injEq, V.ref.injEq, V.ty.injEq, List.cons.injEq, exists_and_left, exists_and_right, exists_eq_left, exists_eq_left', exists_eq, exists_eq', and_true, true_and, exists_const, List.replicate, Nat.sub_self, Nat.reduceAdd, Nat.reduceSub, if_true, if_false, Bool.false_eq_true, ite_true, ite_false, reduceIte]
                  refine nest_made (ns := ⟨l0h, l0n, sw (.ni, .nj) (.i, .j)⟩) (by decide +kernel) (by decide +kernel) (by decide +kernel) (ok_of (p := 14) rfl) fun Hn na sn _ en => prog_made (ps := [(na, ⟨l0h, l0n, sw (.ni, .nj) (.i, .j)⟩)]) (by show 1 ≤ 4; decide) (fun q hq => by rw [List.mem_singleton] at hq; rw [hq]; exact en) fun Hp pa sp _ ep => ⟨by show 3 ≤ sizeLine; rw [sizeLine_eq]; decide, fun t ht => ?_⟩
                  have s3 := sn.trans (sp.trans (Same.upd (o := .lst [V.ref pa, V.int (6 : Nat), V.ref av]) (Same.refl _) ht))
                  exact k _ t pa [(na, ⟨l0h, l0n, sw (.ni, .nj) (.i, .j)⟩)] av (st.trans s3) upd_same (ep.same (Same.upd (Same.refl _) ht)) (fun q hq => by rw [List.mem_singleton] at hq; rw [hq]; exact ok_of (p := 14) rfl) rfl (SizesAt.same zv s3)
                · refine ⟨_, .of cl, V.str "0 to (n+1)//2", atI_eq (j := 1) (by decide) rfl, ?_⟩
                  rw [hR2]; clear hR2 R2
                  simp only [tSeq, tRet, tRetN, tAsg, tIf, tIfS, tNext, tTest, tB, cx_K, cx_w, cx_nK, cx_nw, tOp, tUn, tVar, tC, tCons, tNil, tTup, tLst, tF, tM1, tCB, tAnd, tOr, tNot, tAndV, tOrV, tNotV, tChain, tFld, tPart, tNoPart, tSl, rU, rI0, rI, rEq, rNe, rIxD, rIxL, rIxT, rLen, rIsi, rLenQ, rTupOf, rIn, rSlL, rNewStrs, rAppend, rCat, gUnl, tDrop, wipe, List.foldl_cons, List.foldl_nil, StX.tMakeR, sFld, tLenSetN, tDictZip, rIndex, rSorted, rSortedT, rSetOfT, tPar, tPar3, tBM, rSum, rAll, rAny, tNever, gName, gTup, gCons, gNil, L2.start, List.map_cons, List.map_nil, List.length_cons, List.length_nil, List.cons_append, List.nil_append, List.set_cons_zero, List.set_cons_succ, List.getElem?_cons_zero, List.getElem?_cons_succ, Option.some.injEq, V.int.injEq, V.str.injEq, V.bl.injEq, V.ref.injEq, V.ty.injEq, List.cons.injEq, exists_and_left, exists_and_right, exists_eq_left, exists_eq_left', exists_eq, exists_eq', and_true, true_and, exists_const, List.replicate, Nat.sub_self, Nat.reduceAdd, Nat.reduceSub, if_true, if_false, Bool.false_eq_true, ite_true, ite_false, reduceIte]
                  refine nest_made (ns := ⟨l0u, l0n, sw (.ni, .nj) (.i, .j)⟩) (by decide +kernel) (by decide +kernel) (by decide +kernel) (ok_of (p := 15) rfl) fun Hn na sn _ en => prog_made (ps := [(na, ⟨l0u, l0n, sw (.ni, .nj) (.i, .j)⟩)]) (by show 1 ≤ 4; decide) (fun q hq => by rw [List.mem_singleton] at hq; rw [hq]; exact en) fun Hp pa sp _ ep => ⟨by show 3 ≤ sizeLine; rw [sizeLine_eq]; decide, fun t ht => ?_⟩
                  have s3 := sn.trans (sp.trans (Same.upd (o := .lst [V.ref pa, V.int (6 : Nat), V.ref av]) (Same.refl _) ht))
                  exact k _ t pa [(na, ⟨l0u, l0n, sw (.ni, .nj) (.i, .j)⟩)] av (st.trans s3) upd_same (ep.same (Same.upd (Same.refl _) ht)) (fun q hq => by rw [List.mem_singleton] at hq; rw [hq]; exact ok_of (p := 15) rfl) rfl (SizesAt.same zv s3)
              · rw [decide_eq_false (show ¬ (p : Int) < 16 by omega)]
                refine iteF ?_
                rw [hB]; clear hA hB A B
                simp only [tSeq, tRet, tRetN, tAsg, tIf, tIfS, tNext, tTest, tB, cx_K, cx_w, cx_nK, cx_nw, tOp, tUn, tVar, tC, tCons, tNil, tTup, tLst, tF, tM1, tCB, tAnd, tOr, tNot, tAndV, tOrV, tNotV, tChain, tFld, tPart, tNoPart, tSl, rU, rI0, rI, rEq, rNe, rIxD, rIxL, rIxT, rLen, rIsi, rLenQ, rTupOf, rIn, rSlL, rNewStrs, rAppend, rCat, gUnl, tDrop, wipe, List.foldl_cons, List.foldl_nil, StX.tMakeR, sFld, tLenSetN, tDictZip, rIndex, rSorted, rSortedT, rSetOfT, tPar, tPar3, tBM, rSum, rAll, rAny, tNever, gName, gTup, gCons, gNil, L2.start, List.map_cons, List.map_nil, List.length_cons, List.length_nil, List.cons_append, List.nil_append, List.set_cons_zero, List.set_cons_succ, List.getElem?_cons_zero, List.getElem?_cons_succ, Option.some.injEq, V.int.injEq, V.str.injEq, V.bl.injEq, V.ref.injEq, V.ty.injEq, List.cons.injEq, exists_and_left, exists_and_right, exists_eq_left, exists_eq_left', exists_eq, exists_eq', and_true, true_and, exists_const, List.replicate, Nat.sub_self, Nat.reduceAdd, Nat.reduceSub, if_true, if_false, Bool.false_eq_true, ite_true, ite_false, reduceIte]
                rw [hR]; clear hR R
                refine seqG fun R hR => ?_
                refine ifG fun A B hA hB => ?_
                simp only [tSeq, tRet, tRetN, tAsg, tIf, tIfS, tNext, tTest, tB, cx_K, cx_w, cx_nK, cx_nw, tOp, tUn, tVar, tC, tCons, tNil, tTup, tLst, tF, tM1, tCB, tAnd, tOr, tNot, tAndV, tOrV, tNotV, tChain, tFld, tPart, tNoPart, tSl, rU, rI0, rI, rEq, rNe, rIxD, rIxL, rIxT, rLen, rIsi, rLenQ, rTupOf, rIn, rSlL, rNewStrs, rAppend, rCat, gUnl, tDrop, wipe, List.foldl_cons, List.foldl_nil, StX.tMakeR, sFld, tLenSetN, tDictZip, rIndex, rSorted, rSortedT, rSetOfT, tPar, tPar3, tBM, rSum, rAll, rAny, tNever, gName, gTup, gCons, gNil, L2.start, List.map_cons, List.map_nil, List.length_cons, List.length_nil, List.cons_append, List.nil_append, List.set_cons_zero, List.set_cons_succ, List.getElem?_cons_zero, List.getElem?_cons_succ, Option.some.injEq, V.int.injEq, V.str.injEq, V.bl.injEq, V.ref.injEq, V.ty.injEq, List.cons.injEq, exists_and_left, exists_and_right, exists_eq_left, exists_eq_left', exists_eq, exists_eq', and_true, true_and, exists_const, List.replicate, Nat.sub_self, Nat.reduceAdd, Nat.reduceSub, if_true, if_false, Bool.false_eq_true, ite_true, ite_false, reduceIte]
                refine ⟨rfl, ?_⟩
                by_cases h16 : p = 16
                · subst h16
                  refine iteT ?_
                  rw [hA]; clear hA hB A B hR
                  simp only [tSeq, tRet, tRetN, tAsg, tIf, tIfS, tNext, tTest, tB, cx_K, cx_w, cx_nK, cx_nw, tOp, tUn, tVar, tC, tCons, tNil, tTup, tLst, tF, tM1, tCB, tAnd, tOr, tNot, tAndV, tOrV, tNotV, tChain, tFld, tPart, tNoPart, tSl, rU, rI0, rI, rEq, rNe, rIxD, rIxL, rIxT, rLen, rIsi, rLenQ, rTupOf, rIn, rSlL, rNewStrs, rAppend, rCat, gUnl, tDrop, wipe, List.foldl_cons, List.foldl_nil, StX.tMakeR, sFld, tLenSetN, tDictZip, rIndex, rSorted, rSortedT, rSetOfT, tPar, tPar3, tBM, rSum, rAll, rAny, tNever, gName, gTup, gCons, gNil, L2.start, List.map_cons, List.map_nil, List.length_cons, List.length_nil, List.cons_append, List.nil_append, List.set_cons_zero, List.set_cons_succ, List.getElem?_cons_zero, List.getElem?_cons_succ, Option.some.injEq, V.int.injEq, V.str.injEq, V.bl.injEq, V.ref.injEq, V.ty.injEq, List.cons.injEq, exists_and_left, exists_and_right, exists_eq_left, exists_eq_left', exists_eq, exists_eq', and_true, true_and, exists_const, List.replicate, Nat.sub_self, Nat.reduceAdd, Nat.reduceSub, if_true, if_false, Bool.false_eq_true, ite_true, ite_false, reduceIte]
                  refine nest_made (ns := ⟨l0n, ⟨.zero, .ni1, false⟩, sw (.i, .j) (.nj, .ni)⟩) (by decide +kernel) (by decide +kernel) (by decide +kernel) (ok_of (p := 16) rfl) fun Hn na sn _ en => prog_made (ps := [(na, ⟨l0n, ⟨.zero, .ni1, false⟩, sw (.i, .j) (.nj, .ni)⟩)]) (by show 1 ≤ 4; decide) (fun q hq => by rw [List.mem_singleton] at hq; rw [hq]; exact en) fun Hp pa sp _ ep => ⟨by show 3 ≤ sizeLine; rw [sizeLine_eq]; decide, fun t ht => ?_⟩
                  have s3 := sn.trans (sp.trans (Same.upd (o := .lst [V.ref pa, V.int (7 : Nat), V.ref ae]) (Same.refl _) ht))
                  exact k _ t pa [(na, ⟨l0n, ⟨.zero, .ni1, false⟩, sw (.i, .j) (.nj, .ni)⟩)] ae (st.trans s3) upd_same (ep.same (Same.upd (Same.refl _) ht)) (fun q hq => by rw [List.mem_singleton] at hq; rw [hq]; exact ok_of (p := 16) rfl) rfl (SizesAt.same ze s3)
                · rw [decide_eq_false (show ¬ (p : Int) = 16 by omega)]
                  refine iteF ?_
                  rw [hB]; clear hA hB A B
                  simp only [tSeq, tRet, tRetN, tAsg, tIf, tIfS, tNext, tTest, tB, cx_K, cx_w, cx_nK, cx_nw, tOp, tUn, tVar, tC, tCons, tNil, tTup, tLst, tF, tM1, tCB, tAnd, tOr, tNot, tAndV, tOrV, tNotV, tChain, tFld, tPart, tNoPart, tSl, rU, rI0, rI, rEq, rNe, rIxD, rIxL, rIxT, rLen, rIsi, rLenQ, rTupOf, rIn, rSlL, rNewStrs, rAppend, rCat, gUnl, tDrop, wipe, List.foldl_cons, List.foldl_nil, StX.tMakeR, sFld, tLenSetN, tDictZip, rIndex, rSorted, rSortedT, rSetOfT, tPar, tPar3, tBM, rSum, rAll, rAny, tNever, gName, gTup, gCons, gNil, L2.start, List.map_cons, List.map_nil, List.length_cons, List.length_nil, List.cons_append, List.nil_append, List.set_cons_zero, List.set_cons_succ, List.getElem?_cons_zero, List.getElem?_cons_succ, Option.some.injEq, V.int.injEq, V.str.injEq, V.bl.injEq, V.ref.injEq, V.ty.injEq, List.cons.injEq, exists_and_left, exists_and_right, exists_eq_left, exists_eq_left', exists_eq, exists_eq', and_true, true_and, exists_const, List.replicate, Nat.sub_self, Nat.reduceAdd, Nat.reduceSub, if_true, if_false, Bool.false_eq_true, ite_true, ite_false, reduceIte]
                  rw [hR]; clear hR R
                  have h17 : p = 17 := by omega
                  subst h17
                  refine seqG fun R hR => ?_
                  simp only [tSeq, tRet, tRetN, tAsg, tIf, tIfS, tNext, tTest, tB, cx_K, cx_w, cx_nK, cx_nw, tOp, tUn, tVar, tC, tCons, tNil, tTup, tLst, tF, tM1, tCB, tAnd, tOr, tNot, tAndV, tOrV, tNotV, tChain, tFld, tPart, tNoPart, tSl, rU, rI0, rI, rEq, rNe, rIxD, rIxL, rIxT, rLen, rIsi, rLenQ, rTupOf, rIn, rSlL, rNewStrs, rAppend, rCat, gUnl, tDrop, wipe, List.foldl_cons, List.foldl_nil, StX.tMakeR, sFld, tLenSetN, tDictZip, rIndex, rSorted, rSortedT, rSetOfT, tPar, tPar3, tBM, rSum, rAll, rAny, tNever, gName, gTup, gCons, gNil, L2.start, List.map_cons, List.map_nil, List.length_cons, List.length_nil, List.cons_append, List.nil_append, List.set_cons_zero, List.set_cons_succ, List.getElem?_cons_zero, List.getElem?_cons_succ, Option.some.injEq, V.int.injEq, V.str.injEq, V.bl.injEq, V.ref.injEq, V.ty.injEq, List.cons.injEq, exists_and_left, exists_and_right, exists_eq_left, exists_eq_left', exists_eq, exists_eq', and_true, true_and, exists_const, List.replicate, Nat.sub_self, Nat.reduceAdd, Nat.reduceSub, if_true, if_false, Bool.false_eq_true, ite_true, ite_false, reduceIte]
                  have okA : NsOk ⟨l0n, l0n, ⟨false, [(.i, .j), (.j, .i)], true⟩⟩ := prs_ok _ (by decide +kernel : prs.getD 17 [] ∈ prs) _ (List.mem_cons_self ..)
                  have okB : NsOk ⟨l0n, l0h, ⟨false, [(.i, .nj), (.i, .j)], false⟩⟩ := prs_ok _ (by decide +kernel : prs.getD 17 [] ∈ prs) _ (List.mem_cons_of_mem _ (List.mem_cons_self ..))
                  refine nest_made (ns := ⟨l0n, l0n, ⟨false, [(.i, .j), (.j, .i)], true⟩⟩) (by decide +kernel) (by decide +kernel) (by decide +kernel) okA fun Hm ma sm _ em => ?_
                  rw [hR]; clear hR R
                  simp only [tSeq, tRet, tRetN, tAsg, tIf, tIfS, tNext, tTest, tB, cx_K, cx_w, cx_nK, cx_nw, tOp, tUn, tVar, tC, tCons, tNil, tTup, tLst, tF, tM1, tCB, tAnd, tOr, tNot, tAndV, tOrV, tNotV, tChain, tFld, tPart, tNoPart, tSl, rU, rI0, rI, rEq, rNe, rIxD, rIxL, rIxT, rLen, rIsi, rLenQ, rTupOf, rIn, rSlL, rNewStrs, rAppend, rCat, gUnl, tDrop, wipe, List.foldl_cons, List.foldl_nil, StX.tMakeR, sFld, tLenSetN, tDictZip, rIndex, rSorted, rSortedT, rSetOfT, tPar, tPar3, tBM, rSum, rAll, rAny, tNever, gName, gTup, gCons, gNil, L2.start, List.map_cons, List.map_nil, List.length_cons, List.length_nil, List.cons_append, List.nil_append, List.set_cons_zero, List.set_cons_succ, List.getElem?_cons_zero, List.getElem?_cons_succ, Option.some.injEq, V.int.injEq, V.str.injEq, V.bl.injEq, V.ref.injEq, V.ty.injEq, List.cons.injEq, exists_and_left, exists_and_right, exists_eq_left, exists_eq_left', exists_eq, exists_eq', and_true, true_and, exists_const, List.replicate, Nat.sub_self, Nat.reduceAdd, Nat.reduceSub, if_true, if_false, Bool.false_eq_true, ite_true, ite_false, reduceIte]
                  refine nest_made (ns := ⟨l0n, l0h, ⟨false, [(.i, .nj), (.i, .j)], false⟩⟩) (by decide +kernel) (by decide +kernel) (by decide +kernel) okB fun Hn na sn _ en => prog_made (ps := [(ma, ⟨l0n, l0n, ⟨false, [(.i, .j), (.j, .i)], true⟩⟩), (na, ⟨l0n, l0h, ⟨false, [(.i, .nj), (.i, .j)], false⟩⟩)]) (by show 2 ≤ 4; decide) (fun q hq => ?_) fun Hp pa sp _ ep => ⟨by show 3 ≤ sizeLine; rw [sizeLine_eq]; decide, fun t ht => ?_⟩
                  · simp only [List.mem_cons, List.not_mem_nil, or_false] at hq
                    rcases hq with rfl | rfl
                    · exact em.same sn
                    · exact en
                  · have s3 := sm.trans (sn.trans (sp.trans (Same.upd (o := .lst [V.ref pa, V.int (3 : Nat), V.ref ae]) (Same.refl _) ht)))
                    refine k _ t pa [(ma, ⟨l0n, l0n, ⟨false, [(.i, .j), (.j, .i)], true⟩⟩), (na, ⟨l0n, l0h, ⟨false, [(.i, .nj), (.i, .j)], false⟩⟩)] ae (st.trans s3) upd_same (ep.same (Same.upd (Same.refl _) ht)) (fun q hq => ?_) rfl (SizesAt.same ze s3)
                    simp only [List.mem_cons, List.not_mem_nil, or_false] at hq
                    rcases hq with rfl | rfl
                    · exact okA
                    · exact okB
end
end Sq

set_option Elab.async false
set_option linter.all false
set_option maxRecDepth 100000
set_option maxHeartbeats 4000000
/-! ## Walks: the law -/
namespace Sq
open PySem PySem.Spec PyProof.Rows L2 He
section
variable {P : Program} {w : World} {K : PySem.W.Frag} {mg : Str → Option Value} {base : Heap}
theorem notin_sizes {H : Hp} {g : Addr} {few : List Int} {e o : Option Int} {n : Int} {Q : VK} (h : SizesAt K H g few e o) (hq : Q (.bl (!inSet few e o n)) H) : rOwnIn (ga K "Sizes") (spSizesContains K) true (.int n) (.ref g) H Q := by
  obtain ⟨dx, t, f, e1, e2⟩ := id h
  exact ⟨g, dx, _, rfl, e1, g, few, e, o, n, rfl, h, _, rfl, hq⟩
theorem SameX.tupL {H H' : Hp} {p a : Addr} {zs xs : List V} (sx : SameX p H H') (hp : H p = some (.lst zs)) (h : SqT K H a xs) : SqT K H' a xs := by
  rcases h with (h | ⟨o, h⟩) | h
  · exact .inl (.inl (sx _ _ (fun e => by rw [e, hp] at h; cases h) h))
  · exact .inl (.inr ⟨o, sx _ _ (fun e => by rw [e, hp] at h; cases h) h⟩)
  · exact .inr h
theorem SizesAt.sx {H H' : Hp} {p a : Addr} {zs : List V} {few : List Int} {e o : Option Int} (h : SizesAt K H a few e o) (sx : SameX p H H') (hp : H p = some (.lst zs)) : SizesAt K H' a few e o := by
  obtain ⟨dx, t, f, h1, h2, h3⟩ := h
  exact ⟨dx, t, f, sx _ _ (fun e => by rw [e, hp] at h1; cases h1) h1, sx.tupL hp h2, sx.tupL hp h3⟩
theorem ActAt.sx {H H' : Hp} {p a : Addr} {zs : List V} {ms : Nat → List Int} {few : List Int} {e o : Option Int} (h : ActAt P w K H a ms few e o) (sx : SameX p H H') (hp : H p = some (.lst zs)) : ActAt P w K H' a ms few e o := by
  obtain ⟨dx, D, g, h1, ⟨ad, m1, m2⟩, h3⟩ := h
  refine ⟨dx, D, g, sx _ _ (fun e => by rw [e, hp] at h1; cases h1) h1, ⟨ad, sx _ _ (fun e => by rw [e, hp] at m1; cases m1) m1, fun i hi => ?_⟩, h3.sx sx hp⟩
  have q := m2 i hi
  exact sx _ _ (fun e => by rw [e, hp] at q; cases q) q
/-- the tables of the action of a known program -/
def tsOf (n i : Nat) : List Int := (effK n i).getD []
theorem tsOf_eq {n i : Nat} (hn : n < 18) (hi : i < 24) : effK n i = some (tsOf n i) := by
  have h := eff_some n hn i hi
  unfold tsOf
  cases e : effK n i with
  | none => rw [e] at h; cases h
  | some ts => rfl
abbrev msA (n i : Nat) : List Int := movesOf (tsOf n i)
abbrev msN (n i : Nat) : List Int := movesOf (namK (nmOf n) i)
theorem sameM_K {n i : Nat} (hn : n < 18) (hi : i < 24) : sameM (msA n) (msN n) i = sameK n i := same_iff hn hi (tsOf_eq hn hi)
theorem sameM_K' {n i : Nat} (hn : n < 18) (hi : i < 24) : sameM (msN n) (msA n) i = sameK n i := by
  rw [← sameM_K hn hi]
  unfold sameM
  by_cases h : msN n i = msA n i
  · rw [decide_eq_true h, decide_eq_true h.symm]
  · rw [decide_eq_false h, decide_eq_false fun e => h e.symm]
theorem all_congr {l : List Nat} {f g : Nat → Bool} (h : ∀ i ∈ l, f i = g i) : l.all f = l.all g := by
  induction l with
  | nil => rfl
  | cons x l ih => rw [List.all_cons, List.all_cons, h x (List.mem_cons_self ..), ih fun i hi => h i (List.mem_cons_of_mem _ hi)]
theorem bits_eq {n : Nat} (hn : n < 18) : ((List.range 11).map fun k => agreeAt (msA n) (msN n) (((k : Nat) : Int) + 1)) = bitsP n :=
  List.map_congr_left fun k _ => all_congr fun i hi => sameM_K hn (standing_lt i hi)
theorem bits_eq' {n : Nat} (hn : n < 18) : ((List.range 11).map fun k => agreeAt (msN n) (msA n) (((k : Nat) : Int) + 1)) = bitsP n :=
  List.map_congr_left fun k _ => all_congr fun i hi => sameM_K' hn (standing_lt i hi)
theorem met_eq : metOf (outSz [] none none) = metK := by decide +kernel
theorem metK_lt : ∀ i ∈ metK, i < 24 := by decide +kernel
theorem eq_eq {n : Nat} (hn : n < 18) : (metOf (outSz [] none none)).all (sameM (msA n) (msN n)) = decide (szP n = ([], some 2, some 1)) := by
  rw [met_eq, ← met_same n hn]
  exact all_congr fun i hi => sameM_K hn (metK_lt i hi)
def bsNo : List Bool := (List.range 11).map fun _ => false
theorem falls_bs {n : Nat} (hn : n < 18) : bsNo = ((List.range 11).map fun k => fallsAt (prs.getD n []) (((k : Nat) : Int) + 1)) :=
  List.map_congr_left fun k hk => (falls_no n hn k (List.mem_range.mp hk)).symm
theorem bsNo_sz : szFew bsNo = [] ∧ szE bsNo = none ∧ szO bsNo = none := by decide +kernel
theorem nm_law : ∀ n, n < 18 → lawNames[lawNum n]? = some (nmL.getD (nmOf n) "") ∧ nmOf n < 8 := by decide +kernel
theorem omega_no {n : Nat} {a : Prop} (h : n + 18 < 18) : a := absurd h (by omega)
theorem cells_law (n : Nat) (hn : n < 18) (z i j : Int) : (lawCells z i j)[lawNum n]? = some (srcOf (nmOf n) z (i, j)) := by
  match n, hn with
  | 0, _ => rfl
  | 1, _ => rfl
  | 2, _ => rfl
  | 3, _ => rfl
  | 4, _ => rfl
  | 5, _ => rfl
  | 6, _ => rfl
  | 7, _ => rfl
  | 8, _ => rfl
  | 9, _ => rfl
  | 10, _ => rfl
  | 11, _ => rfl
  | 12, _ => rfl
  | 13, _ => rfl
  | 14, _ => rfl
  | 15, _ => rfl
  | 16, _ => rfl
  | 17, _ => rfl
  | n + 18, h => exact omega_no h
def spRight : Sp := fun vs H Q _ => ∃ (p : Addr) (x y : Int), vs = [.ref p] ∧ H p = some (.lst [.int x, .int y]) ∧ ∀ H', SameX p H H' → Q (.bl true) H'
abbrev N_law_right : List Str := ["_law_purl_here", "_law_mine", "_law_name", "_law_sizes", "_law_action", "_law_named", "_law_size", "_law_row", "_law_column"]
theorem sc_law_right : FnScope N_law_right ["_law_purl_here"] (defScope (top 113)) := ⟨rfl, rfl, rfl, by decide +kernel, rfl, by decide +kernel, by decide +kernel⟩
theorem F_law_right (T : TX w K mg) : Fn P w K mg base 8 "_law_right" (spRight) := by
  obtain ⟨fd, F⟩ := T.fi 49
  have nd := sc_law_right.nd
  have F_law_dig := F_law_dig (P := P) (base := base) T
  have F_law_known := F_law_known (P := P) (base := base) T
  have F_Action_of := F_Action_of (P := P) (base := base) T
  have F_Action_named := F_Action_named (P := P) (base := base) T
  have F_law_names := F_law_names (P := P) (base := base) T
  have F_agree := F_agree (P := P) (base := base) T
  have F_Sizes_eq := F_Sizes_eq (P := P) (base := base) T
  have F_Action_eq := F_Action_eq (P := P) (base := base) T
  have F_law_far := F_law_far (P := P) (base := base) T
  have F_law_spot := F_law_spot (P := P) (base := base) T
  have F_Sizes_contains := F_Sizes_contains (P := P) (base := base) T
  have F_Action_result := F_Action_result (P := P) (base := base) T
  have F_law_cells := F_law_cells (P := P) (base := base) T
  obtain ⟨fdS, g3, g2, g1, d4, d3, SF⟩ := SF (P := P) (base := base) T
  obtain ⟨fdF, FF, bF⟩ := F_Action_falls (P := P) (base := base) T
  refine ⟨_, raw0 F sc_law_right (fun vs H Q E h => ?_) (fun _ _ _ _ _ _ us hl => match us, hl with | [_], _ => rfl) (fun cdv A outer s H vs Q E hr h => ?_), T.g "_law_right", F.kp⟩
  · obtain ⟨p, x, y, rfl, hp, k⟩ := h
    rfl
  · obtain ⟨p, x, y, rfl, hp, k⟩ := h
    refine ⟨_, (pss_cons (ps_asg (pe_f F_law_known hr (pa_cons (pe_f F_law_dig hr (pa_cons (pv 0) (pa_cons (pe_int) pa_nil))) pa_nil)) (pg_unl (n := 3) rfl (pgs_cons (pg_name (i := 1) nd rfl (Or.inl rfl)) (pgs_cons (pg_name (i := 2) nd rfl (Or.inl rfl)) (pgs_cons (pg_name (i := 3) nd rfl (Or.inl rfl)) pgs_nil)))))
    (pss_cons (ps_par (i := 4) (j := 5) (by rfl) nd rfl rfl (by decide) rfl rfl (pa_cons (ClX.pe_cmeth (pe_K rfl (T.g "Action")) ⟨T.e.rd, T.e.rd2⟩ (He5.cmet_of T.e.of1 T.e.of2) F_Action_of (hr.mono (by decide)) pass0 (pa_cons (pv 1) pa_nil)) (pa_cons (ClX.pe_cmeth (pe_K rfl (T.g "Action")) ⟨T.e.rd, T.e.rd2⟩ (He5.cmet_of T.e.nm1 T.e.nm2) F_Action_named (hr.mono (by decide)) pass0 (pa_cons (pe_ix ix_list (pe_f0 F_law_names hr) (pv 2) (fun _ _ => rfl)) pa_nil)) pa_nil)) (by rfl))
    (pss_cons (ps_if (PW.pt (pw_or (pt_cmpR (r := rOwnEq (ga K "Sizes") (spSizesEq K) true) (op_neOwn T.e.ne T.mQ.2.1 F_Sizes_eq (hr.mono (by decide))) (pe_f F_agree hr (pa_cons (pv 4) (pa_cons (pv 5) pa_nil))) (pv 3) (nomark _)) (pw_or1 (pt_cmpR (r := rOwnEq (ga K "Sizes") (spSizesEq K) true) (op_neOwn T.e.ne T.mQ.2.1 F_Sizes_eq (hr.mono (by decide))) (pe_f F_agree hr (pa_cons (pv 5) (pa_cons (pv 4) pa_nil))) (pv 3) (nomark _))))) (pss_one (ps_ret (pe_bl))) pss_nil)
    (pss_cons (ps_if (PW.pt (pw_or (pt_cmpR op_ne (pe_cmpR (r := rOwnEq (ga K "Action") (spActEq P w K) false) (op_eqOwn T.mE.1 T.mE.2.1 F_Action_eq (hr.mono (by decide))) (pv 4) (pv 5) (nomark _)) (pe_cmpR (r := rOwnEq (ga K "Sizes") (spSizesEq K) false) (op_eqOwn T.mQ.1 T.mQ.2.1 F_Sizes_eq (hr.mono (by decide))) (pv 3) (pe_makeK0 T.mkS SF.ok (hr.mono (by decide)) rfl (T.g "Sizes") SF.k2 pass0 (pk_cons (pe_int) (pk_cons (pe_int) pk_nil))) (nomark _)) (nomark _)) (pw_or1 (pt_cmpR (r := rOwnEq (ga K "Sizes") (spSizesEq K) true) (op_neOwn T.e.ne T.mQ.2.1 F_Sizes_eq (hr.mono (by decide))) (pe_prop (pv 4) T.cls.2.2.2.2 T.propF FF (hr.mono (by decide)) bF .nil pass0 (by rfl)) (pe_make0 T.mkS SF.ok (hr.mono (by decide)) rfl (T.g "Sizes") SF.b4.2 SF.b4.1 pass0) (nomark _))))) (pss_one (ps_ret (pe_bl))) pss_nil)
    (pss_cons (ps_set (i := 6) nd rfl (Or.inl rfl) (pe_f F_law_far hr (pa_cons (pv 0) pa_nil)))
    (pss_cons (ps_asg (pe_f F_law_spot hr (pa_cons (pv 0) (pa_cons (pv 6) pa_nil))) (pg_tup (n := 2) rfl (pgs_cons (pg_name (i := 7) nd rfl (Or.inl rfl)) (pgs_cons (pg_name (i := 8) nd rfl (Or.inl rfl)) pgs_nil))))
    (pss_cons (ps_if (pt_cmpR (r := rOwnIn (ga K "Sizes") (spSizesContains K) true) (op_notinOwn T.mC.1 T.mC.2.1 F_Sizes_contains (hr.mono (by decide))) (pv 6) (pv 3) (by rfl)) (pss_one (ps_ret (pe_bl))) pss_nil)
    (pss_one (ps_ret (pe_cmpR (r := rEqD K) (op_eqD hr.units) (pe_methR (pv 4) T.cls.2.2.2.2 ⟨T.mR.1, T.mR.2.1, T.mR.2.2⟩ F_Action_result (hr.mono (by decide)) pass0 (pa_cons (pv 6) (pa_cons (pe_tup (pa_cons (pv 7) (pa_cons (pv 8) pa_nil))) pa_nil))) (pe_tup (pa_cons (pe_tup (pa_cons (pe_ix ix_list (pe_f F_law_cells hr (pa_cons (pv 6) (pa_cons (pv 7) (pa_cons (pv 8) pa_nil)))) (pv 2) (fun _ _ => rfl)) pa_nil)) pa_nil)) (nomark _))))))))))), ?_⟩
    refine seqG fun R hR => ?_
    simp only [tSeq, tRet, tRetN, tAsg, tIf, tIfS, tNext, tTest, tB, cx_K, cx_w, cx_nK, cx_nw, tOp, tUn, tVar, tC, tCons, tNil, tTup, tLst, tF, tM1, tCB, tAnd, tOr, tNot, tAndV, tOrV, tNotV, tChain, tFld, tPart, tNoPart, tSl, rU, rI0, rI, rEq, rNe, rIxD, rIxL, rIxT, rLen, rIsi, rLenQ, rTupOf, rIn, rSlL, rNewStrs, rAppend, rCat, gUnl, tDrop, wipe, List.foldl_cons, List.foldl_nil, StX.tMakeR, sFld, tLenSetN, tDictZip, rIndex, rSorted, rSortedT, rSetOfT, tPar, tPar3, tBM, rSum, rAll, rAny, tNever, gName, gTup, gCons, gNil, L2.start, List.map_cons, List.map_nil, List.length_cons, List.length_nil, List.cons_append, List.nil_append, List.set_cons_zero, List.set_cons_succ, List.getElem?_cons_zero, List.getElem?_cons_succ, Option.some.injEq, V.int.injEq, V.str.injEq, V.bl.injEq, V.ref.injEq, V.ty.injEq, List.cons.injEq, exists_and_left, exists_and_right, exists_eq_left, exists_eq_left', exists_eq, exists_eq', and_true, true_and, exists_const, List.replicate, Nat.sub_self, Nat.reduceAdd, Nat.reduceSub, if_true, if_false, Bool.false_eq_true, ite_true, ite_false, reduceIte]
    refine dig_do (SameX.of (Same.refl H)) hp (by decide) (by decide) fun H1 d x1 y1 s1 e1 d0 d1 => ?_
    obtain ⟨n, rfl⟩ : ∃ n : Nat, d = n := ⟨d.toNat, by omega⟩
    have hn : n < 18 := by omega
    refine ⟨n, rfl, hn, fun H2 t pa ps sa s2 et ep okp eps zs => ⟨t, rfl, _, .of et, rfl, _, _, rfl, _, _, rfl, _, _, rfl, rfl, ?_⟩⟩
    rw [hR]; clear hR R
    refine seqG fun R hR => ?_
    simp only [tSeq, tRet, tRetN, tAsg, tIf, tIfS, tNext, tTest, tB, cx_K, cx_w, cx_nK, cx_nw, tOp, tUn, tVar, tC, tCons, tNil, tTup, tLst, tF, tM1, tCB, tAnd, tOr, tNot, tAndV, tOrV, tNotV, tChain, tFld, tPart, tNoPart, tSl, rU, rI0, rI, rEq, rNe, rIxD, rIxL, rIxT, rLen, rIsi, rLenQ, rTupOf, rIn, rSlL, rNewStrs, rAppend, rCat, gUnl, tDrop, wipe, List.foldl_cons, List.foldl_nil, StX.tMakeR, sFld, tLenSetN, tDictZip, rIndex, rSorted, rSortedT, rSetOfT, tPar, tPar3, tBM, rSum, rAll, rAny, tNever, gName, gTup, gCons, gNil, L2.start, List.map_cons, List.map_nil, List.length_cons, List.length_nil, List.cons_append, List.nil_append, List.set_cons_zero, List.set_cons_succ, List.getElem?_cons_zero, List.getElem?_cons_succ, Option.some.injEq, V.int.injEq, V.str.injEq, V.bl.injEq, V.ref.injEq, V.ty.injEq, List.cons.injEq, exists_and_left, exists_and_right, exists_eq_left, exists_eq_left', exists_eq, exists_eq', and_true, true_and, exists_const, List.replicate, Nat.sub_self, Nat.reduceAdd, Nat.reduceSub, if_true, if_false, Bool.false_eq_true, ite_true, ite_false, reduceIte, ClX.tCMeth]
    refine ⟨pa, ps, tsOf n, bsNo, rfl, ep, okp, fun i hi => by rw [eps]; exact tsOf_eq hn hi, by rw [eps]; exact falls_bs hn, fun H3 aa s3 _ ha => ?_⟩
    rw [bsNo_sz.1, bsNo_sz.2.1, bsNo_sz.2.2] at ha
    obtain ⟨hnm, hm8⟩ := nm_law n hn
    refine ⟨rfl, fun H4 tn s4 en => ?_⟩
    simp only [tSeq, tRet, tRetN, tAsg, tIf, tIfS, tNext, tTest, tB, cx_K, cx_w, cx_nK, cx_nw, tOp, tUn, tVar, tC, tCons, tNil, tTup, tLst, tF, tM1, tCB, tAnd, tOr, tNot, tAndV, tOrV, tNotV, tChain, tFld, tPart, tNoPart, tSl, rU, rI0, rI, rEq, rNe, rIxD, rIxL, rIxT, rLen, rIsi, rLenQ, rTupOf, rIn, rSlL, rNewStrs, rAppend, rCat, gUnl, tDrop, wipe, List.foldl_cons, List.foldl_nil, StX.tMakeR, sFld, tLenSetN, tDictZip, rIndex, rSorted, rSortedT, rSetOfT, tPar, tPar3, tBM, rSum, rAll, rAny, tNever, gName, gTup, gCons, gNil, L2.start, List.map_cons, List.map_nil, List.length_cons, List.length_nil, List.cons_append, List.nil_append, List.set_cons_zero, List.set_cons_succ, List.getElem?_cons_zero, List.getElem?_cons_succ, Option.some.injEq, V.int.injEq, V.str.injEq, V.bl.injEq, V.ref.injEq, V.ty.injEq, List.cons.injEq, exists_and_left, exists_and_right, exists_eq_left, exists_eq_left', exists_eq, exists_eq', and_true, true_and, exists_const, List.replicate, Nat.sub_self, Nat.reduceAdd, Nat.reduceSub, if_true, if_false, Bool.false_eq_true, ite_true, ite_false, reduceIte]
    refine ⟨_, .of en, V.str (nmL.getD (nmOf n) ""), atI_nat (by rw [List.getElem?_map, hnm]; rfl), nmOf n, rfl, hm8, fun H5 na s5 _ hna => ⟨_, _, ⟨rfl, rfl⟩, ?_⟩⟩
    have ha := ha.same (s4.trans s5)
    have s25 := s3.trans (s4.trans s5)
    have zs := zs.same s25
    have e5 := s25 _ _ (s2 _ _ e1)
    have s05 : SameX p H H5 := s1.trans (SameX.of (s2.trans s25))
    clear s3 s4 s5 s25 s2 s1 e1 et ep eps okp en
    rw [hR]; clear hR R
    refine seqG fun R hR => ?_
    simp only [tSeq, tRet, tRetN, tAsg, tIf, tIfS, tNext, tTest, tB, cx_K, cx_w, cx_nK, cx_nw, tOp, tUn, tVar, tC, tCons, tNil, tTup, tLst, tF, tM1, tCB, tAnd, tOr, tNot, tAndV, tOrV, tNotV, tChain, tFld, tPart, tNoPart, tSl, rU, rI0, rI, rEq, rNe, rIxD, rIxL, rIxT, rLen, rIsi, rLenQ, rTupOf, rIn, rSlL, rNewStrs, rAppend, rCat, gUnl, tDrop, wipe, List.foldl_cons, List.foldl_nil, StX.tMakeR, sFld, tLenSetN, tDictZip, rIndex, rSorted, rSortedT, rSetOfT, tPar, tPar3, tBM, rSum, rAll, rAny, tNever, gName, gTup, gCons, gNil, L2.start, List.map_cons, List.map_nil, List.length_cons, List.length_nil, List.cons_append, List.nil_append, List.set_cons_zero, List.set_cons_succ, List.getElem?_cons_zero, List.getElem?_cons_succ, Option.some.injEq, V.int.injEq, V.str.injEq, V.bl.injEq, V.ref.injEq, V.ty.injEq, List.cons.injEq, exists_and_left, exists_and_right, exists_eq_left, exists_eq_left', exists_eq, exists_eq', and_true, true_and, exists_const, List.replicate, Nat.sub_self, Nat.reduceAdd, Nat.reduceSub, if_true, if_false, Bool.false_eq_true, ite_true, ite_false, reduceIte]
    have hsz : (szFew (bitsP n), szE (bitsP n), szO (bitsP n)) = ((szP n).1, (szP n).2.1, (szP n).2.2) := agree_sz n hn
    refine ⟨aa, na, msA n, msN n, _, rfl, ha, hna, rfl, fun H6 g6 s6 _ hz => ?_⟩
    rw [bits_eq hn] at hz
    refine ne_sizes hz (zs.same s6) ⟨_, rfl, ?_⟩
    rw [decide_eq_true hsz]
    refine iteF ⟨na, aa, msN n, msA n, _, rfl, hna.same s6, ha.same s6, rfl, fun H7 g7 s7 _ hz => ?_⟩
    rw [bits_eq' hn] at hz
    have s57 := s6.trans s7
    refine ne_sizes hz (zs.same s57) ⟨_, rfl, ?_⟩
    rw [decide_eq_true hsz]
    refine iteF ?_
    rw [hR]; clear hR R hz
    have ha := ha.same s57
    have hna := hna.same s57
    have zs := zs.same s57
    have e7 := s57 _ _ e5
    have s07 := s05.trans (SameX.of s57)
    clear s05 s57 e5 s6 s7
    refine seqG fun R hR => ?_
    simp only [tSeq, tRet, tRetN, tAsg, tIf, tIfS, tNext, tTest, tB, cx_K, cx_w, cx_nK, cx_nw, tOp, tUn, tVar, tC, tCons, tNil, tTup, tLst, tF, tM1, tCB, tAnd, tOr, tNot, tAndV, tOrV, tNotV, tChain, tFld, tPart, tNoPart, tSl, rU, rI0, rI, rEq, rNe, rIxD, rIxL, rIxT, rLen, rIsi, rLenQ, rTupOf, rIn, rSlL, rNewStrs, rAppend, rCat, gUnl, tDrop, wipe, List.foldl_cons, List.foldl_nil, StX.tMakeR, sFld, tLenSetN, tDictZip, rIndex, rSorted, rSortedT, rSetOfT, tPar, tPar3, tBM, rSum, rAll, rAny, tNever, gName, gTup, gCons, gNil, L2.start, List.map_cons, List.map_nil, List.length_cons, List.length_nil, List.cons_append, List.nil_append, List.set_cons_zero, List.set_cons_succ, List.getElem?_cons_zero, List.getElem?_cons_succ, Option.some.injEq, V.int.injEq, V.str.injEq, V.bl.injEq, V.ref.injEq, V.ty.injEq, List.cons.injEq, exists_and_left, exists_and_right, exists_eq_left, exists_eq_left', exists_eq, exists_eq', and_true, true_and, exists_const, List.replicate, Nat.sub_self, Nat.reduceAdd, Nat.reduceSub, if_true, if_false, Bool.false_eq_true, ite_true, ite_false, reduceIte, tMakeK, tMake, tProp]
    obtain ⟨dxa, Da, gA, a1, a2, a3⟩ := id ha
    obtain ⟨dxn, Dn, gN, n1, n2, n3⟩ := id hna
    refine ⟨aa, na, dxa, dxn, _, _, rfl, rfl, a1, n1, aa, na, msA n, msN n, rfl, ha, hna, fun H8 s8 => ⟨_, rfl, ?_⟩⟩
    rw [eq_eq hn]
    refine sizes_every T fun H9 z9 s9 _ h9 => ?_
    have s79 := s8.trans s9
    refine eq_sizes (zs.same s79) h9 ⟨rfl, ?_⟩
    show if (!decide (V.bl (decide (szP n = ([], some 2, some 1))) = V.bl (decide (szP n = ([], some 2, some 1))))) = true then _ else _
    rw [decide_eq_true (rfl : V.bl (decide (szP n = ([], some 2, some 1))) = V.bl (decide (szP n = ([], some 2, some 1))))]
    refine iteF ⟨⟨_, _, s79 _ _ a1⟩, aa, dxa, Da, gA, rfl, s79 _ _ a1, ?_⟩
    refine sizes_none T fun H10 z10 s10 _ h10 => ?_
    have s710 := s79.trans s10
    refine ne_sizes (a3.same s710) h10 ⟨_, rfl, ?_⟩
    rw [decide_eq_true rfl]
    refine iteF ?_
    have ha := ha.same s710
    have zs := zs.same s710
    have e10 := s710 _ _ e7
    have s010 := s07.trans (SameX.of s710)
    clear s710 s79 s8 s9 s10 e7 s07 h9 h10 hna a1 a2 a3 n1 n2 n3
    rw [hR]; clear hR R
    refine seqG fun R hR => ?_
    simp only [tSeq, tRet, tRetN, tAsg, tIf, tIfS, tNext, tTest, tB, cx_K, cx_w, cx_nK, cx_nw, tOp, tUn, tVar, tC, tCons, tNil, tTup, tLst, tF, tM1, tCB, tAnd, tOr, tNot, tAndV, tOrV, tNotV, tChain, tFld, tPart, tNoPart, tSl, rU, rI0, rI, rEq, rNe, rIxD, rIxL, rIxT, rLen, rIsi, rLenQ, rTupOf, rIn, rSlL, rNewStrs, rAppend, rCat, gUnl, tDrop, wipe, List.foldl_cons, List.foldl_nil, StX.tMakeR, sFld, tLenSetN, tDictZip, rIndex, rSorted, rSortedT, rSetOfT, tPar, tPar3, tBM, rSum, rAll, rAny, tNever, gName, gTup, gCons, gNil, L2.start, List.map_cons, List.map_nil, List.length_cons, List.length_nil, List.cons_append, List.nil_append, List.set_cons_zero, List.set_cons_succ, List.getElem?_cons_zero, List.getElem?_cons_succ, Option.some.injEq, V.int.injEq, V.str.injEq, V.bl.injEq, V.ref.injEq, V.ty.injEq, List.cons.injEq, exists_and_left, exists_and_right, exists_eq_left, exists_eq_left', exists_eq, exists_eq', and_true, true_and, exists_const, List.replicate, Nat.sub_self, Nat.reduceAdd, Nat.reduceSub, if_true, if_false, Bool.false_eq_true, ite_true, ite_false, reduceIte]
    refine ⟨p, x1, y1, rfl, e10, fun H11 z x2 y2 s11 e11 z1 z2 => ?_⟩
    have ha := ha.sx s11 e10
    have zs := zs.sx s11 e10
    have s011 := s010.trans s11
    clear s010 e10
    rw [hR]; clear hR R
    refine seqG fun R hR => ?_
    simp only [tSeq, tRet, tRetN, tAsg, tIf, tIfS, tNext, tTest, tB, cx_K, cx_w, cx_nK, cx_nw, tOp, tUn, tVar, tC, tCons, tNil, tTup, tLst, tF, tM1, tCB, tAnd, tOr, tNot, tAndV, tOrV, tNotV, tChain, tFld, tPart, tNoPart, tSl, rU, rI0, rI, rEq, rNe, rIxD, rIxL, rIxT, rLen, rIsi, rLenQ, rTupOf, rIn, rSlL, rNewStrs, rAppend, rCat, gUnl, tDrop, wipe, List.foldl_cons, List.foldl_nil, StX.tMakeR, sFld, tLenSetN, tDictZip, rIndex, rSorted, rSortedT, rSetOfT, tPar, tPar3, tBM, rSum, rAll, rAny, tNever, gName, gTup, gCons, gNil, L2.start, List.map_cons, List.map_nil, List.length_cons, List.length_nil, List.cons_append, List.nil_append, List.set_cons_zero, List.set_cons_succ, List.getElem?_cons_zero, List.getElem?_cons_succ, Option.some.injEq, V.int.injEq, V.str.injEq, V.bl.injEq, V.ref.injEq, V.ty.injEq, List.cons.injEq, exists_and_left, exists_and_right, exists_eq_left, exists_eq_left', exists_eq, exists_eq', and_true, true_and, exists_const, List.replicate, Nat.sub_self, Nat.reduceAdd, Nat.reduceSub, if_true, if_false, Bool.false_eq_true, ite_true, ite_false, reduceIte]
    refine ⟨p, z, x2, y2, rfl, e11, z1, fun H12 ct i j s12 hct i0 i1 j0 j1 => ?_⟩
    have ha := ha.sx s12 e11
    have zs := zs.sx s12 e11
    have s012 := s011.trans s12
    refine ⟨ct, rfl, _, .of hct, rfl, _, _, rfl, _, _, rfl, rfl, ?_⟩
    rw [hR]; clear hR R
    refine seqG fun R hR => ?_
    simp only [tSeq, tRet, tRetN, tAsg, tIf, tIfS, tNext, tTest, tB, cx_K, cx_w, cx_nK, cx_nw, tOp, tUn, tVar, tC, tCons, tNil, tTup, tLst, tF, tM1, tCB, tAnd, tOr, tNot, tAndV, tOrV, tNotV, tChain, tFld, tPart, tNoPart, tSl, rU, rI0, rI, rEq, rNe, rIxD, rIxL, rIxT, rLen, rIsi, rLenQ, rTupOf, rIn, rSlL, rNewStrs, rAppend, rCat, gUnl, tDrop, wipe, List.foldl_cons, List.foldl_nil, StX.tMakeR, sFld, tLenSetN, tDictZip, rIndex, rSorted, rSortedT, rSetOfT, tPar, tPar3, tBM, rSum, rAll, rAny, tNever, gName, gTup, gCons, gNil, L2.start, List.map_cons, List.map_nil, List.length_cons, List.length_nil, List.cons_append, List.nil_append, List.set_cons_zero, List.set_cons_succ, List.getElem?_cons_zero, List.getElem?_cons_succ, Option.some.injEq, V.int.injEq, V.str.injEq, V.bl.injEq, V.ref.injEq, V.ty.injEq, List.cons.injEq, exists_and_left, exists_and_right, exists_eq_left, exists_eq_left', exists_eq, exists_eq', and_true, true_and, exists_const, List.replicate, Nat.sub_self, Nat.reduceAdd, Nat.reduceSub, if_true, if_false, Bool.false_eq_true, ite_true, ite_false, reduceIte]
    refine notin_sizes zs ⟨_, rfl, ?_⟩
    cases hin : inSet (szP n).1 (szP n).2.1 (szP n).2.2 z with
    | false => exact iteT (k _ s012)
    | true =>
      refine iteF ?_
      rw [hR]; clear hR R
      simp only [tSeq, tRet, tRetN, tAsg, tIf, tIfS, tNext, tTest, tB, cx_K, cx_w, cx_nK, cx_nw, tOp, tUn, tVar, tC, tCons, tNil, tTup, tLst, tF, tM1, tCB, tAnd, tOr, tNot, tAndV, tOrV, tNotV, tChain, tFld, tPart, tNoPart, tSl, rU, rI0, rI, rEq, rNe, rIxD, rIxL, rIxT, rLen, rIsi, rLenQ, rTupOf, rIn, rSlL, rNewStrs, rAppend, rCat, gUnl, tDrop, wipe, List.foldl_cons, List.foldl_nil, StX.tMakeR, sFld, tLenSetN, tDictZip, rIndex, rSorted, rSortedT, rSetOfT, tPar, tPar3, tBM, rSum, rAll, rAny, tNever, gName, gTup, gCons, gNil, L2.start, List.map_cons, List.map_nil, List.length_cons, List.length_nil, List.cons_append, List.nil_append, List.set_cons_zero, List.set_cons_succ, List.getElem?_cons_zero, List.getElem?_cons_succ, Option.some.injEq, V.int.injEq, V.str.injEq, V.bl.injEq, V.ref.injEq, V.ty.injEq, List.cons.injEq, exists_and_left, exists_and_right, exists_eq_left, exists_eq_left', exists_eq, exists_eq', and_true, true_and, exists_const, List.replicate, Nat.sub_self, Nat.reduceAdd, Nat.reduceSub, if_true, if_false, Bool.false_eq_true, ite_true, ite_false, reduceIte, tMethR]
      obtain ⟨dxa, Da, gA, a1, a2, a3⟩ := id ha
      refine ⟨_, _, a1, rfl, by rw [sizeLine_eq]; decide, fun ca hca => ?_⟩
      obtain ⟨t13, c13⟩ := cell_new (i := i) (j := j) hca
      generalize upd H12 ca (.tup [V.int i, V.int j]) = H13 at t13 c13 ⊢
      refine ⟨aa, ca, z, i, j, msA n, rfl, ha.same t13, c13, z2, i0, i1, j0, j1, fun kk cs hk im => ?_⟩
      obtain ⟨q, hq, ekq, hst, hlen, hidx, hall⟩ := found_at i0 i1 j0 j1 hk im
      obtain ⟨s', hs', hget, hcs⟩ := hall (nmOf n)
      have hsame : sameK n q = true := same_all hn hq z1 (show inSz n z = true from hin) hst
      have hts : tsOf n q = namK (nmOf n) q := by
        have h1 : effK n q = some (namK (nmOf n) q) := of_decide_eq_true hsame
        rw [tsOf_eq hn hq] at h1
        exact Option.some.inj h1
      have h8 := im.len
      have hl : (namK (nmOf n) q).length = cs.length := by rw [nam_len, hlen]
      refine ⟨q, s', hq, ekq, hs', ?_, ?_, fun H14 t t2 cc s14 et et2 ecc => ?_⟩
      · show (movesOf (tsOf n q)).length ≤ 256
        rw [hts]
        unfold movesOf
        rw [List.length_map, List.length_range, hl]
        exact Nat.pow_le_pow_right (n := 2) (by decide) h8
      · show leastOf (movesOf (tsOf n q)) _ = _
        rw [hts]
        exact least_one (by omega) (by omega) (by omega) (by rw [hl]; exact hget)
      · have ecell : cs.getD s' (0, 0) = srcOf (nmOf n) z (i, j) := by rw [List.getD_eq_getElem?_getD, hcs]; rfl
        rw [ecell] at ecc
        clear hget hall hcs hlen hidx
        refine ⟨z, i, j, rfl, fun H15 tl qs s15 el hqs eqs => ?_⟩
        have hc := cells_law n hn z i j
        rw [← eqs, List.getElem?_map] at hc
        obtain ⟨qc, hqc, eqc⟩ := Option.map_eq_some_iff.mp hc
        have cqc := hqs qc (List.mem_of_getElem? hqc)
        rw [eqc] at cqc
        generalize srcOf (nmOf n) z (i, j) = cell at ecc cqc
        refine ⟨tl, rfl, _, .of el, V.ref qc.1, atI_nat (by rw [List.getElem?_map, hqc]; rfl), by rw [sizeLine_eq]; decide, fun u1 hu1 => ⟨by rw [sizeLine_eq]; decide, fun u2 hu2 => ?_⟩⟩
        obtain ⟨v1, f1⟩ := tup_new (xs := [V.ref qc.1]) hu1
        generalize upd H15 u1 (.tup [V.ref qc.1]) = H16 at v1 f1 hu2 ⊢
        obtain ⟨v2, f2⟩ := tup_new (xs := [V.ref u1]) hu2
        generalize upd H16 u2 (.tup [V.ref u1]) = H17 at v2 f2 ⊢
        have s1517 := s15.trans (v1.trans v2)
        have cc1 : CellAt H17 cc cell := s1517 _ _ ecc
        have cc2 : CellAt H17 qc.1 cell := v2 _ _ (v1 _ _ cqc)
        have d1 : Dp K H17 (.ref t) (.tuple [.tuple [pairD cell]]) := .tup (.of (s1517 _ _ et)) (.cons (.tup (.of (s1517 _ _ et2)) (.cons (.tup (.of cc1) (.cons (.int _) (.cons (.int _) .nil))) .nil)) .nil)
        have d2 : Dp K H17 (.ref u2) (.tuple [.tuple [pairD cell]]) := .tup (.of f2) (.cons (.tup (.of (v2 _ _ f1)) (.cons (.tup (.of cc2) (.cons (.int _) (.cons (.int _) .nil))) .nil)) .nil)
        refine ⟨_, _, d1, d2, rfl, rfl, ?_⟩
        have ev : PyData.eqv (.tuple [.tuple [pairD cell]]) (.tuple [.tuple [pairD cell]]) = true := by
          show ((PyData.eqv (pairD cell) (pairD cell) && true) && true) = true
          rw [eqv_pair, decide_eq_true rfl]
          rfl
        rw [ev]
        exact k _ (s012.trans (SameX.of (t13.trans (s14.trans s1517))))
def spLaw (K : PySem.W.Frag) : Sp := fun vs H Q _ => ∃ (a : Addr) (ns : List Int), vs = [.ref a] ∧ SqL K H a (ns.map V.int) ∧ ns.length ≤ 63 ∧ ∀ H', Q (.bl true) H'
abbrev N_law : List Str := ["_law_script", "_law_spot_here"]
theorem sc_law : FnScope N_law ["_law_script"] (defScope (top 114)) := ⟨rfl, rfl, rfl, by decide +kernel, rfl, by decide +kernel, by decide +kernel⟩
theorem ok_law (T : TX w K mg) {fd : FuncData} (F : FunD K d_law.name d_law.qual d_law.params d_law.body d_law.scope (d_law.dvs K) (d_law.kws K) (d_law.at_ K) fd) :
    FnOk P w K mg base CX0 9 (d_law.at_ K) fd ["_law_script"] (spLaw K) := by
  have nd := sc_law.nd
  have F_law_purl := F_law_purl (P := P) (base := base) T
  have F_law_right := F_law_right (P := P) (base := base) T
  refine F.ok sc_law (fun vs H Q E h => ?_) fun cdv A outer s H vs Q E hr h => ?_
  · obtain ⟨_, _, rfl, _⟩ := h
    rfl
  · obtain ⟨a, ns, rfl, ha, hl, k⟩ := h
    suffices h : ∃ tt, PSs (cxOf CX0 P w K mg base N_law d_law.qual (defScope (top 114)) (d_law.at_ K) cdv A outer s H E).nox (defBody (top 114)) tt ∧ tt { nx := fun _ H' => Q .non H', rt := Q } (L2.start N_law [.ref a]) H by
      obtain ⟨tt, a, b⟩ := h
      exact ⟨tt, a.nox, b⟩
    refine ⟨_, (pss_one (ps_ret (pe_callB (cr_all rfl) (by rfl) (T.z "all") (by decide +kernel) (pa_cons (pe_lc (own := [("_law_spot_here", 1)]) (g := gName 1) (tt := tYes) (by rfl) nd (pi_range1 (by rfl) (T.z "range") (pa_cons (pe_callB (call_max2 rfl) (by rfl) (T.z "max") (by decide +kernel) (pa_cons (pe_int) (pa_cons (pe_callB (call_min2 rfl) (by rfl) (T.z "min") (by decide +kernel) (pa_cons (pe_callB call_len_seq (by rfl) (T.z "len") (by decide +kernel) (pa_cons (pv 0) pa_nil)) (pa_cons (pe_int) pa_nil))) pa_nil))) pa_nil)) (blkOk_by (own := [("_law_spot_here", 1)]) (N := N_law) (sc := (defScope (top 114))) (by decide +kernel)) (fun _ _ _ _ _ => (pg_name (i := 1) nd rfl (Or.inl rfl))) (fun _ _ _ _ _ => pts_nil) (fun _ _ _ _ _ => (pe_f F_law_right hr (pa_cons (pe_f F_law_purl hr (pa_cons (pv 0) (pa_cons (pv 1) pa_nil))) pa_nil)))) pa_nil)))), ?_⟩
    simp only [tSeq, tRet, tRetN, tAsg, tIf, tIfS, tNext, tTest, tB, cx_K, cx_w, cx_nK, cx_nw, tOp, tUn, tVar, tC, tCons, tNil, tTup, tLst, tF, tM1, tCB, tAnd, tOr, tNot, tAndV, tOrV, tNotV, tChain, tFld, tPart, tNoPart, tSl, rU, rI0, rI, rEq, rNe, rIxD, rIxL, rIxT, rLen, rIsi, rLenQ, rTupOf, rIn, rSlL, rNewStrs, rAppend, rCat, gUnl, tDrop, wipe, List.foldl_cons, List.foldl_nil, StX.tMakeR, sFld, tLenSetN, tDictZip, rIndex, rSorted, rSortedT, rSetOfT, tPar, tPar3, tBM, rSum, rAll, rAny, tNever, gName, gTup, gCons, gNil, L2.start, List.map_cons, List.map_nil, List.length_cons, List.length_nil, List.cons_append, List.nil_append, List.set_cons_zero, List.set_cons_succ, List.getElem?_cons_zero, List.getElem?_cons_succ, Option.some.injEq, V.int.injEq, V.str.injEq, V.bl.injEq, V.ref.injEq, V.ty.injEq, List.cons.injEq, exists_and_left, exists_and_right, exists_eq_left, exists_eq_left', exists_eq, exists_eq', and_true, true_and, exists_const, List.replicate, Nat.sub_self, Nat.reduceAdd, Nat.reduceSub, if_true, if_false, Bool.false_eq_true, ite_true, ite_false, reduceIte]
    obtain ⟨m, hm⟩ : ∃ m : Int, m = if (if (3 : Int) < ((ns.map V.int).length : Nat) then (3 : Int) else ((ns.map V.int).length : Nat)) > 2 then (if (3 : Int) < ((ns.map V.int).length : Nat) then (3 : Int) else ((ns.map V.int).length : Nat)) else 2 := ⟨_, rfl⟩
    have m1 : 0 ≤ m ∧ m ≤ 3 := by rw [hm]; repeat' split <;> omega
    refine ⟨_, rfl, a, rfl, _, .inl ha, _, _, rfl, _, _, rfl, _, rfl, ?_⟩
    rw [← hm]
    clear hm
    refine ⟨by omega, by omega, fun D hD => lcm (walk_range (lo := 0)) (by rw [sizeLine_eq]; omega) hD (fun _ => V.bl true) (fun _ _ => trivial) (fun c x H5 H' Q5 hc sa5 y hq => ?_) (fun H5 sa5 e5 => ?_)⟩
    · obtain ⟨rfl, rfl⟩ := y
      refine ⟨rfl, ?_⟩
      simp only [tSeq, tRet, tRetN, tAsg, tIf, tIfS, tNext, tTest, tB, cx_K, cx_w, cx_nK, cx_nw, tOp, tUn, tVar, tC, tCons, tNil, tTup, tLst, tF, tM1, tCB, tAnd, tOr, tNot, tAndV, tOrV, tNotV, tChain, tFld, tPart, tNoPart, tSl, rU, rI0, rI, rEq, rNe, rIxD, rIxL, rIxT, rLen, rIsi, rLenQ, rTupOf, rIn, rSlL, rNewStrs, rAppend, rCat, gUnl, tDrop, wipe, List.foldl_cons, List.foldl_nil, StX.tMakeR, sFld, tLenSetN, tDictZip, rIndex, rSorted, rSortedT, rSetOfT, tPar, tPar3, tBM, rSum, rAll, rAny, tNever, gName, gTup, gCons, gNil, L2.start, List.map_cons, List.map_nil, List.length_cons, List.length_nil, List.cons_append, List.nil_append, List.set_cons_zero, List.set_cons_succ, List.getElem?_cons_zero, List.getElem?_cons_succ, Option.some.injEq, V.int.injEq, V.str.injEq, V.bl.injEq, V.ref.injEq, V.ty.injEq, List.cons.injEq, exists_and_left, exists_and_right, exists_eq_left, exists_eq_left', exists_eq, exists_eq', and_true, true_and, exists_const, List.replicate, Nat.sub_self, Nat.reduceAdd, Nat.reduceSub, if_true, if_false, Bool.false_eq_true, ite_true, ite_false, reduceIte]
      refine ⟨a, ns, c, by rw [Int.zero_add], sa5.seq ha, by omega, fun H6 p x y s6 hp ep => ⟨p, x, y, rfl, ep, fun H7 s7 => hq _ fun b u h => s7 b u (ne_of_none h hp) (s6 b u h)⟩⟩
    · refine ⟨D, rfl, (List.range m.toNat).map fun _ => true, .of (by rw [e5, List.map_map]; rfl), ?_⟩
      have e : ((List.range m.toNat).map fun _ => true).all id = true := by
        rw [List.all_eq_true]
        intro b hb
        obtain ⟨_, _, rfl⟩ := List.mem_map.mp hb
        rfl
      rw [e]
      exact k _
theorem law_facts {h : Heap} {f : Addr} (X : K.In h) (G : h.Ns mainGlobals mg) (hfa : mg ("law" : Str) = some (.ref f)) (c : SaysZ w K) :
    ∃ fd : FuncData, (∀ (s : Shared) (v : Value), BindsTo s fd ⟨[v], []⟩ [("_law_script", v)]) ∧ ∀ base : Heap, K.In base → base.Ns mainGlobals mg → FnOk P w K mg base CX0 9 f fd ["_law_script"] (spLaw K) := by
  have T : TX w K mg := TX.mk' X G c
  obtain ⟨fd, F⟩ := T.fi 50
  have e := hfa.symm.trans (T.g "law")
  cases e
  have b := FunD.bindsA (ps := ["_law_script"]) F fun _ _ _ _ _ _ us hl => match us, hl with | [_], _ => rfl
  exact ⟨fd, fun s v => b s [v] rfl, fun base _ _ => ok_law T F⟩
end
end Sq

set_option Elab.async false
set_option linter.all false
set_option maxRecDepth 100000
set_option maxHeartbeats 4000000
/-! ## The row -/
open PySem PySem.W PySem.Calls PyProof.Rows
theorem PySem.Challenge.cw_squareloops_k86_whole_known_programs_holds : PySem.Challenge.rw_squareloops_k86_whole_known_programs.Holds := by
  w_on; o_law
  refine Sq.H.hd ?hc ?hw
  case hw => w_witness2
  case hc =>
    refine L2.walk_ofE (l := PySem.Challenge.rw_squareloops_k86_whole_known_programs) (n := 63) (k := 9) (x := "_law_script") (CX := L2.CX0) rfl (by decide) (by kernel_rfl) ⟨rfl, by decide, by decide⟩ ?F (fun _ _ _ _ z => z)
    intro w mg fa h Y G hmg0
    obtain ⟨K, KX, c⟩ := Y
    have hmg : mg ("law" : PySem.Str) = some (.ref fa) := by
      have e : (HandSHeadRun.topDef (OpenLaw.row PySem.Challenge.rw_squareloops_k86_whole_known_programs).prog 114).name = ("law" : PySem.Str) := by kernel_rfl
      rw [← e]
      exact hmg0
    obtain ⟨fd, hb, hF⟩ := Sq.law_facts (P := (PySem.Challenge.rw_squareloops_k86_whole_known_programs).prog) (w := w) KX G hmg c
    exact ⟨K, fd, Sq.spLaw K, KX, hb, fun H a ns hl _ hS => ⟨a, ns, rfl, hS, hl, fun _ => rfl⟩, hF⟩

