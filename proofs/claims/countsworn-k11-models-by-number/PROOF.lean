import PyProof.Rows.All
import Wide.All
import OpenK.AllK
import Wide.FinOn
import KE.KStateDown
import Lean
import HandS.ForMost
import HandS.WordsExc
import HandS.Codes
import HandS.Defaults
import HandS.HeadEnd
import HandS.HeadHook1
import HandS.HeadHook2
import HandS.HeadHook4
import PySem.Challenge.RW_countsworn_k11_models_by_number
import HandS.Deep
import HandS.Conv
import HandS.TupAny
import HandS.IsInst
import HandS.Flow
import HandS.Gcd
import KE.SortData
import KE.SortKeyHeap
import KE.KDictCopyH
import KE.KDictSum
import HandS.SortKw
import HandS.DictComp
import KE.KDictKeyed
import HandS.SetFor
import HandS.GenCall
import HandS.GenList
import HandS.GenYield
import PyProof.GenComp
import HandS.ExcOwn
import HandS.TryElse
import KE.DataMinMax
import HandS.SortInts
import KE.HD3
set_option Elab.async false
set_option linter.all false
set_option maxRecDepth 100000
set_option maxHeartbeats 4000000
namespace CW
open PySem PySem.Spec PyProof.Rows L2
open C8 (Cal Met Mak pe_c pe_mk pe_mt pe_mt0)
def top (i : Nat) : Stmt := PySem.Challenge.pw_countsworn_k11_models_by_number.main.body.getD i (.Pass ⟨0, 0, 0, 0⟩)
abbrev sQfraction : Stmt := top 2
abbrev sQplus : Stmt := top 3
abbrev sQtimes : Stmt := top 4
abbrev sQproduct : Stmt := top 5
abbrev sQliteral_key : Stmt := top 7
abbrev sQclause_key : Stmt := top 8
abbrev sQclause_of : Stmt := top 9
abbrev sQresidue_of : Stmt := top 10
abbrev sQvariables_of : Stmt := top 11
abbrev sQunder : Stmt := top 12
abbrev sQweight_of : Stmt := top 13
abbrev sQunits : Stmt := top 21
abbrev sQhas_empty : Stmt := top 22
abbrev sQpropagate : Stmt := top 23
abbrev sQjoined_variables : Stmt := top 24
abbrev sQparts_of : Stmt := top 25
abbrev sQis_within : Stmt := top 26
abbrev sQlessened : Stmt := top 27
abbrev sQshown_of : Stmt := top 28
abbrev sQchildren_of : Stmt := top 30
abbrev sQreached : Stmt := top 31
abbrev sQis_open : Stmt := top 32
abbrev sQfree_weight : Stmt := top 36
abbrev sQown_variables : Stmt := top 37
abbrev sQliterals_told : Stmt := top 38
abbrev sQlacking : Stmt := top 39
abbrev sQway_weight : Stmt := top 40
abbrev sQnode_sum : Stmt := top 41
abbrev sQall_sums : Stmt := top 42
abbrev sQoutside : Stmt := top 43
abbrev sQbounds : Stmt := top 44
abbrev sQdemand_closed : Stmt := top 45
abbrev sQsum_of : Stmt := top 46
abbrev sQwith_prefix : Stmt := top 48
abbrev sQcount_with : Stmt := top 49
abbrev sQmodel_count : Stmt := top 50
abbrev sQmodel_at : Stmt := top 51
abbrev sQnumber_of : Stmt := top 52
abbrev sQmodels : Stmt := top 53
abbrev sQopposites : Stmt := top 55
abbrev sQfollows : Stmt := top 56
abbrev sQwith_row : Stmt := top 57
abbrev sQis_row : Stmt := top 59
abbrev sQis_order : Stmt := top 60
abbrev sQis_policy : Stmt := top 61
abbrev sQmost_used : Stmt := top 62
abbrev sQchosen : Stmt := top 63
abbrev sQTrail_init : Stmt := inClass (top 65) 0
abbrev sQTrail_start : Stmt := inClass (top 65) 1
abbrev sQTrail_decide : Stmt := inClass (top 65) 2
abbrev sQTrail_literals : Stmt := inClass (top 65) 3
abbrev sQTrail_tell : Stmt := inClass (top 65) 4
abbrev sQTrail_back : Stmt := inClass (top 65) 5
abbrev sQTrail_again : Stmt := inClass (top 65) 6
abbrev sQTrail_filling : Stmt := inClass (top 65) 7
abbrev sQsearch_counted : Stmt := top 66
abbrev sQMaker_init : Stmt := inClass (top 68) 0
abbrev sQMaker_left : Stmt := inClass (top 68) 1
abbrev sQMaker_searched : Stmt := inClass (top 68) 2
abbrev sQMaker_plan : Stmt := inClass (top 68) 3
abbrev sQMaker_choice_plan : Stmt := inClass (top 68) 4
abbrev sQMaker_made : Stmt := inClass (top 68) 5
abbrev sQMaker_number_of : Stmt := inClass (top 68) 6
abbrev sQcompile_sheet : Stmt := top 69
abbrev sQlaw_draw : Stmt := top 71
abbrev sQlaw_take : Stmt := top 72
abbrev sQlaw_key : Stmt := top 73
abbrev sQlaw_sorted : Stmt := top 74
abbrev sQlaw_clause : Stmt := top 75
abbrev sQlaw_formula : Stmt := top 76
abbrev sQlaw_fillings : Stmt := top 80
abbrev sQlaw_longer : Stmt := top 81
abbrev sQlaw_keeps : Stmt := top 82
abbrev sQlaw_models : Stmt := top 83
abbrev sQlaw_policy : Stmt := top 86
abbrev sQlaw_sheet : Stmt := top 87
abbrev sQlaw : Stmt := top 88
def fn : List He.DefD :=
  ([⟨("fraction", none), "fraction", "fraction", defArgs sQfraction, defBody sQfraction, defScope sQfraction, [], []⟩,
   ⟨("plus", none), "plus", "plus", defArgs sQplus, defBody sQplus, defScope sQplus, [], []⟩,
   ⟨("times", none), "times", "times", defArgs sQtimes, defBody sQtimes, defScope sQtimes, [], []⟩,
   ⟨("product", none), "product", "product", defArgs sQproduct, defBody sQproduct, defScope sQproduct, [], []⟩,
   ⟨("literal_key", none), "literal_key", "literal_key", defArgs sQliteral_key, defBody sQliteral_key, defScope sQliteral_key, [], []⟩,
   ⟨("clause_key", none), "clause_key", "clause_key", defArgs sQclause_key, defBody sQclause_key, defScope sQclause_key, [], []⟩,
   ⟨("clause_of", none), "clause_of", "clause_of", defArgs sQclause_of, defBody sQclause_of, defScope sQclause_of, [], []⟩,
   ⟨("residue_of", none), "residue_of", "residue_of", defArgs sQresidue_of, defBody sQresidue_of, defScope sQresidue_of, [], []⟩,
   ⟨("variables_of", none), "variables_of", "variables_of", defArgs sQvariables_of, defBody sQvariables_of, defScope sQvariables_of, [], []⟩,
   ⟨("under", none), "under", "under", defArgs sQunder, defBody sQunder, defScope sQunder, [], []⟩,
   ⟨("weight_of", none), "weight_of", "weight_of", defArgs sQweight_of, defBody sQweight_of, defScope sQweight_of, [], []⟩,
   ⟨("units", none), "units", "units", defArgs sQunits, defBody sQunits, defScope sQunits, [], []⟩,
   ⟨("has_empty", none), "has_empty", "has_empty", defArgs sQhas_empty, defBody sQhas_empty, defScope sQhas_empty, [], []⟩,
   ⟨("propagate", none), "propagate", "propagate", defArgs sQpropagate, defBody sQpropagate, defScope sQpropagate, [], []⟩,
   ⟨("joined_variables", none), "joined_variables", "joined_variables", defArgs sQjoined_variables, defBody sQjoined_variables, defScope sQjoined_variables, [], []⟩,
   ⟨("parts_of", none), "parts_of", "parts_of", defArgs sQparts_of, defBody sQparts_of, defScope sQparts_of, [], []⟩,
   ⟨("is_within", none), "is_within", "is_within", defArgs sQis_within, defBody sQis_within, defScope sQis_within, [], []⟩,
   ⟨("lessened", none), "lessened", "lessened", defArgs sQlessened, defBody sQlessened, defScope sQlessened, [], []⟩,
   ⟨("shown_of", none), "shown_of", "shown_of", defArgs sQshown_of, defBody sQshown_of, defScope sQshown_of, [], []⟩,
   ⟨("children_of", none), "children_of", "children_of", defArgs sQchildren_of, defBody sQchildren_of, defScope sQchildren_of, [], []⟩,
   ⟨("reached", none), "reached", "reached", defArgs sQreached, defBody sQreached, defScope sQreached, [], []⟩,
   ⟨("is_open", none), "is_open", "is_open", defArgs sQis_open, defBody sQis_open, defScope sQis_open, [], []⟩,
   ⟨("free_weight", none), "free_weight", "free_weight", defArgs sQfree_weight, defBody sQfree_weight, defScope sQfree_weight, [], []⟩,
   ⟨("own_variables", none), "own_variables", "own_variables", defArgs sQown_variables, defBody sQown_variables, defScope sQown_variables, [], []⟩,
   ⟨("literals_told", none), "literals_told", "literals_told", defArgs sQliterals_told, defBody sQliterals_told, defScope sQliterals_told, [], []⟩,
   ⟨("lacking", none), "lacking", "lacking", defArgs sQlacking, defBody sQlacking, defScope sQlacking, [], []⟩,
   ⟨("way_weight", none), "way_weight", "way_weight", defArgs sQway_weight, defBody sQway_weight, defScope sQway_weight, [], []⟩,
   ⟨("node_sum", none), "node_sum", "node_sum", defArgs sQnode_sum, defBody sQnode_sum, defScope sQnode_sum, [], []⟩,
   ⟨("all_sums", none), "all_sums", "all_sums", defArgs sQall_sums, defBody sQall_sums, defScope sQall_sums, [], []⟩,
   ⟨("outside", none), "outside", "outside", defArgs sQoutside, defBody sQoutside, defScope sQoutside, [], []⟩] : List He.DefD) ++
  ([⟨("bounds", none), "bounds", "bounds", defArgs sQbounds, defBody sQbounds, defScope sQbounds, [], []⟩,
   ⟨("demand_closed", none), "demand_closed", "demand_closed", defArgs sQdemand_closed, defBody sQdemand_closed, defScope sQdemand_closed, [], []⟩,
   ⟨("sum_of", none), "sum_of", "sum_of", defArgs sQsum_of, defBody sQsum_of, defScope sQsum_of, [], []⟩,
   ⟨("with_prefix", none), "with_prefix", "with_prefix", defArgs sQwith_prefix, defBody sQwith_prefix, defScope sQwith_prefix, [], []⟩,
   ⟨("count_with", none), "count_with", "count_with", defArgs sQcount_with, defBody sQcount_with, defScope sQcount_with, [], []⟩,
   ⟨("model_count", none), "model_count", "model_count", defArgs sQmodel_count, defBody sQmodel_count, defScope sQmodel_count, [], []⟩,
   ⟨("model_at", none), "model_at", "model_at", defArgs sQmodel_at, defBody sQmodel_at, defScope sQmodel_at, [], []⟩,
   ⟨("number_of", none), "number_of", "number_of", defArgs sQnumber_of, defBody sQnumber_of, defScope sQnumber_of, [], []⟩,
   ⟨("models", none), "models", "models", defArgs sQmodels, defBody sQmodels, defScope sQmodels, [], []⟩,
   ⟨("opposites", none), "opposites", "opposites", defArgs sQopposites, defBody sQopposites, defScope sQopposites, [], []⟩,
   ⟨("follows", none), "follows", "follows", defArgs sQfollows, defBody sQfollows, defScope sQfollows, [], []⟩,
   ⟨("with_row", none), "with_row", "with_row", defArgs sQwith_row, defBody sQwith_row, defScope sQwith_row, [], []⟩,
   ⟨("is_row", none), "is_row", "is_row", defArgs sQis_row, defBody sQis_row, defScope sQis_row, [], []⟩,
   ⟨("is_order", none), "is_order", "is_order", defArgs sQis_order, defBody sQis_order, defScope sQis_order, [], []⟩,
   ⟨("is_policy", none), "is_policy", "is_policy", defArgs sQis_policy, defBody sQis_policy, defScope sQis_policy, [], []⟩,
   ⟨("most_used", none), "most_used", "most_used", defArgs sQmost_used, defBody sQmost_used, defScope sQmost_used, [], []⟩,
   ⟨("chosen", none), "chosen", "chosen", defArgs sQchosen, defBody sQchosen, defScope sQchosen, [], []⟩,
   ⟨("Trail", some "__init__"), "__init__", "Trail.__init__", defArgs sQTrail_init, defBody sQTrail_init, defScope sQTrail_init, [], []⟩,
   ⟨("Trail", some "start"), "start", "Trail.start", defArgs sQTrail_start, defBody sQTrail_start, defScope sQTrail_start, [], []⟩,
   ⟨("Trail", some "decide"), "decide", "Trail.decide", defArgs sQTrail_decide, defBody sQTrail_decide, defScope sQTrail_decide, [], []⟩,
   ⟨("Trail", some "literals"), "literals", "Trail.literals", defArgs sQTrail_literals, defBody sQTrail_literals, defScope sQTrail_literals, [], []⟩,
   ⟨("Trail", some "tell"), "tell", "Trail.tell", defArgs sQTrail_tell, defBody sQTrail_tell, defScope sQTrail_tell, [], []⟩,
   ⟨("Trail", some "back"), "back", "Trail.back", defArgs sQTrail_back, defBody sQTrail_back, defScope sQTrail_back, [], []⟩,
   ⟨("Trail", some "again"), "again", "Trail.again", defArgs sQTrail_again, defBody sQTrail_again, defScope sQTrail_again, [], []⟩,
   ⟨("Trail", some "filling"), "filling", "Trail.filling", defArgs sQTrail_filling, defBody sQTrail_filling, defScope sQTrail_filling, [], []⟩,
   ⟨("search_counted", none), "search_counted", "search_counted", defArgs sQsearch_counted, defBody sQsearch_counted, defScope sQsearch_counted, [], []⟩,
   ⟨("Maker", some "__init__"), "__init__", "Maker.__init__", defArgs sQMaker_init, defBody sQMaker_init, defScope sQMaker_init, [], []⟩,
   ⟨("Maker", some "left"), "left", "Maker.left", defArgs sQMaker_left, defBody sQMaker_left, defScope sQMaker_left, [], []⟩,
   ⟨("Maker", some "searched"), "searched", "Maker.searched", defArgs sQMaker_searched, defBody sQMaker_searched, defScope sQMaker_searched, [], []⟩,
   ⟨("Maker", some "plan"), "plan", "Maker.plan", defArgs sQMaker_plan, defBody sQMaker_plan, defScope sQMaker_plan, [], []⟩] : List He.DefD) ++
  ([⟨("Maker", some "choice_plan"), "choice_plan", "Maker.choice_plan", defArgs sQMaker_choice_plan, defBody sQMaker_choice_plan, defScope sQMaker_choice_plan, [], []⟩,
   ⟨("Maker", some "made"), "made", "Maker.made", defArgs sQMaker_made, defBody sQMaker_made, defScope sQMaker_made, [], []⟩,
   ⟨("Maker", some "number_of"), "number_of", "Maker.number_of", defArgs sQMaker_number_of, defBody sQMaker_number_of, defScope sQMaker_number_of, [], []⟩,
   ⟨("compile_sheet", none), "compile_sheet", "compile_sheet", defArgs sQcompile_sheet, defBody sQcompile_sheet, defScope sQcompile_sheet, [], [("fuel", .int 100000)]⟩,
   ⟨("_law_draw", none), "_law_draw", "_law_draw", defArgs sQlaw_draw, defBody sQlaw_draw, defScope sQlaw_draw, [], []⟩,
   ⟨("_law_take", none), "_law_take", "_law_take", defArgs sQlaw_take, defBody sQlaw_take, defScope sQlaw_take, [], []⟩,
   ⟨("_law_key", none), "_law_key", "_law_key", defArgs sQlaw_key, defBody sQlaw_key, defScope sQlaw_key, [], []⟩,
   ⟨("_law_sorted", none), "_law_sorted", "_law_sorted", defArgs sQlaw_sorted, defBody sQlaw_sorted, defScope sQlaw_sorted, [], []⟩,
   ⟨("_law_clause", none), "_law_clause", "_law_clause", defArgs sQlaw_clause, defBody sQlaw_clause, defScope sQlaw_clause, [], []⟩,
   ⟨("_law_formula", none), "_law_formula", "_law_formula", defArgs sQlaw_formula, defBody sQlaw_formula, defScope sQlaw_formula, [], []⟩,
   ⟨("_law_fillings", none), "_law_fillings", "_law_fillings", defArgs sQlaw_fillings, defBody sQlaw_fillings, defScope sQlaw_fillings, [], []⟩,
   ⟨("_law_longer", none), "_law_longer", "_law_longer", defArgs sQlaw_longer, defBody sQlaw_longer, defScope sQlaw_longer, [], []⟩,
   ⟨("_law_keeps", none), "_law_keeps", "_law_keeps", defArgs sQlaw_keeps, defBody sQlaw_keeps, defScope sQlaw_keeps, [], []⟩,
   ⟨("_law_models", none), "_law_models", "_law_models", defArgs sQlaw_models, defBody sQlaw_models, defScope sQlaw_models, [], []⟩,
   ⟨("_law_policy", none), "_law_policy", "_law_policy", defArgs sQlaw_policy, defBody sQlaw_policy, defScope sQlaw_policy, [], []⟩,
   ⟨("_law_sheet", none), "_law_sheet", "_law_sheet", defArgs sQlaw_sheet, defBody sQlaw_sheet, defScope sQlaw_sheet, [], []⟩,
   ⟨("law", none), "law", "law", defArgs sQlaw, defBody sQlaw, defScope sQlaw, [], []⟩] : List He.DefD)
def fa : List He.Fa :=
  ([.glo "fraction", .glo "plus", .glo "times", .glo "product", .glo "literal_key", .glo "clause_key", .glo "clause_of", .glo "residue_of", .glo "variables_of", .glo "under", .glo "weight_of", .glo "units", .glo "has_empty", .glo "propagate", .glo "joined_variables", .glo "parts_of"] : List He.Fa) ++
  ([.glo "is_within", .glo "lessened", .glo "shown_of", .glo "children_of", .glo "reached", .glo "is_open", .glo "free_weight", .glo "own_variables", .glo "literals_told", .glo "lacking", .glo "way_weight", .glo "node_sum", .glo "all_sums", .glo "outside", .glo "bounds", .glo "demand_closed"] : List He.Fa) ++
  ([.glo "sum_of", .glo "with_prefix", .glo "count_with", .glo "model_count", .glo "model_at", .glo "number_of", .glo "models", .glo "opposites", .glo "follows", .glo "with_row", .glo "is_row", .glo "is_order", .glo "is_policy", .glo "most_used", .glo "chosen", .glo "search_counted"] : List He.Fa) ++
  ([.glo "compile_sheet", .glo "_law_draw", .glo "_law_take", .glo "_law_key", .glo "_law_sorted", .glo "_law_clause", .glo "_law_formula", .glo "_law_fillings", .glo "_law_longer", .glo "_law_keeps", .glo "_law_models", .glo "_law_policy", .glo "_law_sheet", .glo "law", .free "abs", .free "all"] : List He.Fa) ++
  ([.free "any", .free "int", .free "isinstance", .free "bool", .free "tuple", .free "len", .free "list", .free "min", .free "max", .free "range", .free "set", .free "sorted", .glo "Trail", .cls "Trail", .mkr "Trail", .glo "Maker"] : List He.Fa) ++
  ([.cls "Maker", .mkr "Maker", .noat "Trail" "first", .noat "Trail" "rows", .noat "Trail" "levels", .noat "Trail" "decided", .noat "Maker" "formula", .noat "Maker" "policy", .noat "Maker" "fuel", .noat "Maker" "used", .noat "Maker" "nodes", .noat "Maker" "known", .meth "Trail" "start", .meth "Trail" "decide", .meth "Trail" "literals", .meth "Trail" "tell"] : List He.Fa) ++
  ([.meth "Trail" "back", .meth "Trail" "again", .meth "Trail" "filling", .meth "Maker" "left", .meth "Maker" "searched", .meth "Maker" "plan", .meth "Maker" "choice_plan", .meth "Maker" "made", .meth "Maker" "number_of", .glo "OpenSheet", .glo "NoFilling", .glo "PolicyError", .glo "ZERO", .glo "ONE", .glo "EMPTY", .exc "NoFilling"] : List He.Fa) ++
  ([.exm "NoFilling" "NoFilling" true] : List He.Fa)
def adr : List Addr :=
  ([3, 49, 56, 63, 70, 77, 82, 87, 92, 99, 104, 111, 121, 134, 146, 158, 162, 167, 174, 181, 186, 191, 196, 201, 206, 213, 220, 225, 226, 227] : List Addr) ++
  ([232, 237, 242, 247, 254, 259, 266, 271, 278, 285, 292, 297, 304, 311, 318, 325, 332, 337, 344, 351, 358, 365, 370, 375, 382, 442, 453, 512, 524, 529] : List Addr) ++
  ([536, 543, 548, 553, 560, 567, 574, 581, 588, 595, 600, 607, 614, 621, 626, 633, 640, 48, 55, 62, 69, 76, 81, 86, 91, 98, 103, 110, 120, 133] : List Addr) ++
  ([145, 157, 161, 166, 173, 180, 185, 190, 195, 200, 205, 212, 219, 224, 231, 236, 241, 246, 253, 258, 265, 270, 277, 284, 291, 296, 303, 310, 317, 324] : List Addr) ++
  ([331, 336, 343, 350, 357, 364, 369, 374, 381, 441, 452, 511, 523, 517, 528, 535, 542, 547, 552, 559, 566, 573, 580, 587, 594, 599, 606, 613, 620, 625] : List Addr) ++
  ([632, 639, 396, 403, 410, 415, 420, 427, 434, 439, 467, 474, 481, 488, 495, 502, 509, 395, 402, 409, 414, 419, 426, 433, 438, 466, 473, 480, 487, 494] : List Addr) ++
  ([501, 508] : List Addr)
def empB (K : PySem.W.Frag) (a : Addr) : Bool := match K.lookup a with
  | some ⟨.type c, _, .seq its _, _⟩ => decide (c = "tuple") && decide (its.toList = [])
  | _ => false
theorem empB_ok {K : PySem.W.Frag} {a : Addr} (h : empB K a = true) (H : Hp) : SqT K H a [] := by
  unfold empB at h
  split at h
  · rename_i c d its n sl q
    obtain ⟨h1, h2⟩ := He.ba h
    have e := of_decide_eq_true h2
    have sz : its.size = 0 := by rw [← Array.length_toList, e]; rfl
    exact .inr ⟨_, its, n, q, congrArg Value.type (of_decide_eq_true h1), rfl, by omega, by rw [e]; exact .nil⟩
  · cases h
def ex (K : PySem.W.Frag) : Bool := He.eqO (PySem.W.nsIn K mainGlobals "gcd") (some (some (.builtin "math.gcd"))) &&
  (He.tupB K "ZERO" [.int 0, .int 1] && (He.tupB K "ONE" [.int 1, .int 1] && (He.tupB K "EMPTY" [.adr fun _ => 161] && empB K 161)))
/-- what the head tells of the part K of the heap -/
def Says (K : PySem.W.Frag) : Prop := He.obsD fa fn K = He.valD fn ∧ ex K = true
def obsG (g : Addr → Option Obj) : He.AlD × Bool := (He.obsD fa fn (He.frG g adr), ex (He.frG g adr))
def hk : PySem.W.Hook where
  α := He.AlD × Bool
  obs := fun s => obsG s.heap.get?
  val := fun _ => (He.valD fn, true)
  says := fun _ h => ∃ K : PySem.W.Frag, K.In h ∧ Says K
  of := fun _ _ e => ⟨_, He.frG_in, congrArg (fun z => z.1) e, congrArg (fun z => z.2) e⟩
  keeps := fun _ _ _ ⟨K, hK, c⟩ k => ⟨K, PySem.W.Frag.In.keeps hK k, c⟩
/-- all that the walks ask of the text as it stands behind the top -/
structure Tx (K : PySem.W.Frag) (mg : Str → Option Value) (base : Heap) : Prop where
  c : Says K
  X : K.In base
  G : base.Ns mainGlobals mg
section
variable {P : Program} {w : World} {K : PySem.W.Frag} {mg : Str → Option Value} {base : Heap}
theorem Tx.fa (T : Tx K mg base) (i : Nat) {f : He.Fa} (h : CW.fa[i]? = some f := by rfl) : f.ok K = true := He.SaysD.fact T.c.1 i h
theorem Tx.fn (T : Tx K mg base) (i : Nat) {d : He.DefD} (h : CW.fn[i]? = some d := by rfl) : ∃ fd, FunD K d.name d.qual d.params d.body d.scope (d.dvs K) (d.kws K) (He.fAd K d.at_) fd := He.SaysD.def_ T.c.1 i h
theorem Tx.free (T : Tx K mg base) (i : Nat) {x : Str} (h : CW.fa[i]? = some (.free x) := by rfl) : mg x = none := He.free_ok T.X T.G (T.fa i h)
theorem Tx.glo (T : Tx K mg base) (i : Nat) {x : Str} (h : CW.fa[i]? = some (.glo x) := by rfl) : mg x = some (.ref (He.ga K x)) := He.glo_ok T.X T.G (T.fa i h)
theorem Tx.g_gcd (T : Tx K mg base) : mg "gcd" = some (.builtin "math.gcd") := PySem.W.mg_of T.X T.G (He.eqO_ok (He.ba T.c.2).1)
theorem Tx.g_ZERO (T : Tx K mg base) : mg "ZERO" = some (.ref (He.ga K "ZERO")) := T.glo 108
theorem Tx.g_ONE (T : Tx K mg base) : mg "ONE" = some (.ref (He.ga K "ONE")) := T.glo 109
theorem Tx.g_EMPTY (T : Tx K mg base) : mg "EMPTY" = some (.ref (He.ga K "EMPTY")) := T.glo 110
theorem Tx.v_ZERO (T : Tx K mg base) (H : Hp) : SqT K H (He.ga K "ZERO") [.int 0, .int 1] := He.tupB_ok (He.ba (He.ba T.c.2).2).1 H
theorem Tx.v_ONE (T : Tx K mg base) (H : Hp) : SqT K H (He.ga K "ONE") [.int 1, .int 1] := He.tupB_ok (He.ba (He.ba (He.ba T.c.2).2).2).1 H
theorem Tx.v_EMPTY (T : Tx K mg base) (H : Hp) : SqT K H (He.ga K "EMPTY") [.ref 161] := He.tupB_ok (He.ba (He.ba (He.ba (He.ba T.c.2).2).2).2).1 H
theorem Tx.v_emp (T : Tx K mg base) (H : Hp) : SqT K H 161 [] := empB_ok (He.ba (He.ba (He.ba (He.ba T.c.2).2).2).2).2 H
theorem len_pure {ps : List Str} {us : List Value} {d : He.DefD} : us.length = ps.length → us.length = ps.length := id
theorem Tx.f_abs (T : Tx K mg base) : mg "abs" = none := T.free 62
theorem Tx.f_all (T : Tx K mg base) : mg "all" = none := T.free 63
theorem Tx.f_any (T : Tx K mg base) : mg "any" = none := T.free 64
theorem Tx.f_int (T : Tx K mg base) : mg "int" = none := T.free 65
theorem Tx.f_isinstance (T : Tx K mg base) : mg "isinstance" = none := T.free 66
theorem Tx.f_bool (T : Tx K mg base) : mg "bool" = none := T.free 67
theorem Tx.f_tuple (T : Tx K mg base) : mg "tuple" = none := T.free 68
theorem Tx.f_len (T : Tx K mg base) : mg "len" = none := T.free 69
theorem Tx.f_list (T : Tx K mg base) : mg "list" = none := T.free 70
theorem Tx.f_min (T : Tx K mg base) : mg "min" = none := T.free 71
theorem Tx.f_max (T : Tx K mg base) : mg "max" = none := T.free 72
theorem Tx.f_range (T : Tx K mg base) : mg "range" = none := T.free 73
theorem Tx.f_set (T : Tx K mg base) : mg "set" = none := T.free 74
theorem Tx.f_sorted (T : Tx K mg base) : mg "sorted" = none := T.free 75
/-- a def of the top without defaults keeps its promise -/
theorem cal_of (T : Tx K mg base) (i j : Nat) {x : Str} {st : Stmt} {N ps : List Str} {k : Nat} {sp : Sp} (h : CW.fn[i]? = some ⟨(x, none), x, x, defArgs st, defBody st, defScope st, [], []⟩) (hg : CW.fa[j]? = some (.glo x)) (S : FnScope N ps (defScope st))
    (hb : ∀ (kV doc pm : Value) (an : Option Addr) (cdv ct : Value) (us : List Value), us.length = ps.length → bindArgs (PySem.W.fnOf x x (defArgs st) (defBody st) (defScope st) .none kV doc pm an cdv ct) ⟨us, []⟩ = pure (ps.zip us))
    (len : ∀ vs H Q E, sp vs H Q E → vs.length = ps.length)
    (hbody : ∀ (cdv : Value) (A : Around) (outer : List Env) (s : Shared) (H : Hp) (vs : List V) (Q : VK) (E : XK), Room k (A.deeper (envOfC x (defScope st) s.heap.objs.size (He.ga K x) cdv)) → sp vs H Q E →
      ∃ t, PSs (cxOf CX0 P w K mg base N x (defScope st) (He.ga K x) cdv A outer s H E).nox (defBody st) t ∧ t { nx := fun _ H' => Q .non H', rt := Q } (start N vs) H) : Cal P w K mg base (k + 1) x sp [] := by
  obtain ⟨fd, F⟩ := T.fn i h
  have F' : FunD K x x (defArgs st) (defBody st) (defScope st) [] [] (He.ga K x) fd := F
  refine ⟨⟨He.ga K x, fd, ps, [], F'.ok S len (fun cdv A outer s H vs Q E hr hs => ?_), T.glo j hg, F'.kp, F'.bindsN hb, .nil⟩⟩
  obtain ⟨t, a, b⟩ := hbody cdv A outer s H vs Q E hr hs
  exact ⟨t, a.nox, b⟩
end
end CW

set_option maxRecDepth 100000
set_option maxHeartbeats 4000000
/-! The typed environment: what the slots of a def hold, as plain data. -/
namespace CW
open PySem PySem.Spec PyProof.Rows L2
open C8 (Cal Met Mak pe_c pe_mk pe_mt pe_mt0)

/-! ### data without lists: it never changes -/
def TuA (K : PySem.W.Frag) (H : Hp) (a : Addr) (xs : List V) : Prop := H a = some (.tup xs) ∨ ∀ H' : Hp, SqT K H' a xs
mutual
inductive Td (K : PySem.W.Frag) (H : Hp) : V → PyData → Prop
  | non : Td K H .non .none
  | bl (b : Bool) : Td K H (.bl b) (.bool b)
  | int (i : Int) : Td K H (.int i) (.int i)
  | str (x : Str) : Td K H (.str x) (.str x)
  | tup {a : Addr} {xs : List V} {ds : List PyData} : TuA K H a xs → TdAll K H xs ds → Td K H (.ref a) (.tuple ds)
inductive TdAll (K : PySem.W.Frag) (H : Hp) : List V → List PyData → Prop
  | nil : TdAll K H [] []
  | cons {v : V} {vs : List V} {d : PyData} {ds : List PyData} : Td K H v d → TdAll K H vs ds → TdAll K H (v :: vs) (d :: ds)
end
def Keep (H H' : Hp) : Prop := ∀ a xs, H a = some (.tup xs) → H' a = some (.tup xs)
theorem Keep.refl (H : Hp) : Keep H H := fun _ _ h => h
theorem Keep.trans {H H1 H2 : Hp} (a : Keep H H1) (b : Keep H1 H2) : Keep H H2 := fun x xs h => b x xs (a x xs h)
theorem keep_same {H H' : Hp} (e : Same H H') : Keep H H' := fun a xs h => e a _ h
theorem keep_upd {H : Hp} {p : Addr} {o : HO} (h : ∀ xs, H p ≠ some (.tup xs)) : Keep H (upd H p o) := fun a xs e => by
  have n : a ≠ p := fun q => h xs (by rw [← q]; exact e)
  rw [upd_ne n]
  exact e
section
variable {K : PySem.W.Frag} {H H' H0 H1 : Hp}
theorem TuA.keep {a : Addr} {xs : List V} (k : Keep H H') (h : TuA K H a xs) : TuA K H' a xs := h.elim (fun e => .inl (k _ _ e)) .inr
theorem TuA.sq {a : Addr} {xs : List V} (h : TuA K H a xs) : SqT K H a xs := h.elim (fun e => .inl (.inl e)) fun e => e H
mutual
theorem Td.keep (k : Keep H H') : ∀ (d : PyData) (v : V), Td K H v d → Td K H' v d
  | .none, _, h => by cases h; exact .non
  | .bool _, _, h => by cases h; exact .bl _
  | .int _, _, h => by cases h; exact .int _
  | .str _, _, h => by cases h; exact .str _
  | .list _, _, h => by cases h
  | .dict _, _, h => by cases h
  | .tuple ds, _, h => by
    cases h with
    | tup a b => exact .tup (a.keep k) (TdAll.keep k ds _ b)
theorem TdAll.keep (k : Keep H H') : ∀ (ds : List PyData) (vs : List V), TdAll K H vs ds → TdAll K H' vs ds
  | [], _, h => by cases h; exact .nil
  | d :: ds, _, h => by
    cases h with
    | cons a b => exact .cons (Td.keep k d _ a) (TdAll.keep k ds _ b)
end
mutual
theorem Td.dp : ∀ (d : PyData) (v : V), Td K H v d → Dp K H v d
  | .none, _, h => by cases h; exact .non
  | .bool _, _, h => by cases h; exact .bl _
  | .int _, _, h => by cases h; exact .int _
  | .str _, _, h => by cases h; exact .str _
  | .list _, _, h => by cases h
  | .dict _, _, h => by cases h
  | .tuple ds, _, h => by
    cases h with
    | tup a b => exact .tup a.sq (TdAll.dp ds _ b)
theorem TdAll.dp : ∀ (ds : List PyData) (vs : List V), TdAll K H vs ds → DpAll K H vs ds
  | [], _, h => by cases h; exact .nil
  | d :: ds, _, h => by
    cases h with
    | cons a b => exact .cons (Td.dp d _ a) (TdAll.dp ds _ b)
end
theorem Td.same {v : V} {d : PyData} (e : Same H H') (h : Td K H v d) : Td K H' v d := Td.keep (keep_same e) d v h
theorem TdAll.same {vs : List V} {ds : List PyData} (e : Same H H') (h : TdAll K H vs ds) : TdAll K H' vs ds := TdAll.keep (keep_same e) ds vs h
theorem Td.k {v : V} {d : PyData} (e : Keep H H') (h : Td K H v d) : Td K H' v d := Td.keep e d v h
theorem TdAll.k {vs : List V} {ds : List PyData} (e : Keep H H') (h : TdAll K H vs ds) : TdAll K H' vs ds := TdAll.keep e ds vs h
theorem TdAll.length : ∀ {vs : List V} {ds : List PyData}, TdAll K H vs ds → vs.length = ds.length
  | _, [], h => by cases h; rfl
  | _, _ :: _, h => by
    cases h with
    | cons _ b => rw [List.length_cons, List.length_cons, TdAll.length b]
theorem TdAll.get : ∀ {ds : List PyData} {vs : List V} {i : Nat} {d : PyData}, TdAll K H vs ds → ds[i]? = some d → ∃ v, vs[i]? = some v ∧ Td K H v d
  | [], _, _, _, _, e => by simp at e
  | d :: ds, _, i, e, h, q => by
    cases h with
    | cons a b => cases i with
      | zero => exact ⟨_, rfl, by rw [← Option.some.inj q]; exact a⟩
      | succ i => exact TdAll.get (ds := ds) (i := i) b (by simpa using q)
theorem TdAll.get' : ∀ {ds : List PyData} {vs : List V} {i : Nat} {v : V}, TdAll K H vs ds → vs[i]? = some v → ∃ d, ds[i]? = some d ∧ Td K H v d
  | [], _, _, _, h, e => by cases h; simp at e
  | d :: ds, _, i, v, h, q => by
    cases h with
    | cons a b => cases i with
      | zero => exact ⟨_, rfl, by rw [← Option.some.inj q]; exact a⟩
      | succ i => exact TdAll.get' (ds := ds) (i := i) b (by simpa using q)
theorem TdAll.snoc : ∀ {ds : List PyData} {vs : List V} {d : PyData} {v : V}, TdAll K H vs ds → Td K H v d → TdAll K H (vs ++ [v]) (ds ++ [d])
  | [], _, _, _, h, q => by cases h; exact .cons q .nil
  | _ :: ds, _, _, _, h, q => by
    cases h with
    | cons a b => exact .cons a (TdAll.snoc b q)
theorem TdAll.append : ∀ {ds es : List PyData} {vs ws : List V}, TdAll K H vs ds → TdAll K H ws es → TdAll K H (vs ++ ws) (ds ++ es)
  | [], _, _, _, h, q => by cases h; exact q
  | _ :: ds, _, _, _, h, q => by
    cases h with
    | cons a b => exact .cons a (TdAll.append b q)
theorem TdAll.ints : ∀ {ns : List Int} {vs : List V}, TdAll K H vs (ns.map .int) → vs = ns.map V.int
  | [], _, h => by cases h; rfl
  | n :: ns, _, h => by
    have h' : TdAll K H _ (.int n :: ns.map .int) := h
    cases h' with
    | cons a b => cases a; rw [TdAll.ints b]; rfl
theorem TdAll.of_ints : ∀ (ns : List Int), TdAll K H (ns.map V.int) (ns.map .int)
  | [] => .nil
  | n :: ns => .cons (.int n) (TdAll.of_ints ns)
theorem TdAll.bls : ∀ {ns : List Bool} {vs : List V}, TdAll K H vs (ns.map .bool) → vs = ns.map V.bl
  | [], _, h => by cases h; rfl
  | n :: ns, _, h => by
    have h' : TdAll K H _ (.bool n :: ns.map .bool) := h
    cases h' with
    | cons a b => cases a; rw [TdAll.bls b]; rfl
theorem Td.t {v : V} {ds : List PyData} (h : Td K H v (.tuple ds)) : ∃ a xs, v = .ref a ∧ TuA K H a xs ∧ TdAll K H xs ds := by
  cases h with
  | tup a b => exact ⟨_, _, rfl, a, b⟩
theorem Td.i {v : V} {n : Int} (h : Td K H v (.int n)) : v = .int n := by cases h; rfl
theorem Td.b {v : V} {n : Bool} (h : Td K H v (.bool n)) : v = .bl n := by cases h; rfl
theorem Td.s {v : V} {n : Str} (h : Td K H v (.str n)) : v = .str n := by cases h; rfl
theorem Td.n {v : V} (h : Td K H v .none) : v = .non := by cases h; rfl
theorem SqL.sm {a : Addr} {xs : List V} (e : Same H H') (h : SqL K H a xs) : SqL K H' a xs := Same.seq e h
end
theorem same_upd {H : Hp} {p : Addr} {o : HO} (h : H p = none) : Same H (upd H p o) := fun b u e => by
  rw [upd_ne (ne_of_none e h)]
  exact e
theorem same_mut {H0 H : Hp} {p : Addr} {o : HO} (e : Same H0 H) (h : H0 p = none) : Same H0 (upd H p o) := fun b u q => by
  rw [upd_ne (ne_of_none q h)]
  exact e b u q

/-! ### what a slot holds -/
inductive Ct where
  | lst (ds : List PyData)
  | dk (kvs : List (Key × PyData))
  | fix (vs : List V) (ds : List PyData)
  /-- any object; its parts -/
  | raw (o : HO) (ts : List (V × PyData))
def DkOk (K : PySem.W.Frag) (H : Hp) : List (Key × V) → List (Key × PyData) → Prop := Paired fun p q => p.1 = q.1 ∧ Td K H p.2 q.2
theorem DkOk.k {K : PySem.W.Frag} {H H' : Hp} (e : Keep H H') : ∀ {ws : List (Key × V)} {kvs : List (Key × PyData)}, DkOk K H ws kvs → DkOk K H' ws kvs
  | _, _, .nil => .nil
  | _, _, .cons h t => .cons ⟨h.1, h.2.k e⟩ (DkOk.k e t)
def CtOk (K : PySem.W.Frag) (H : Hp) : Ct → HO → Prop
  | .lst ds, o => ∃ vs, o = .lst vs ∧ TdAll K H vs ds
  | .fix vs ds, o => o = .lst vs ∧ TdAll K H vs ds
  | .dk kvs, o => ∃ ws : List (Key × V), o = .dK ws ∧ DkOk K H ws kvs
  | .raw o ts, o' => o' = o ∧ (∀ xs, o ≠ .tup xs) ∧ ∀ t ∈ ts, Td K H t.1 t.2
theorem CtOk.k {K : PySem.W.Frag} {H H' : Hp} (e : Keep H H') : ∀ {c : Ct} {o : HO}, CtOk K H c o → CtOk K H' c o
  | .lst _, _, ⟨vs, h, q⟩ => ⟨vs, h, q.k e⟩
  | .fix _ _, _, ⟨h, q⟩ => ⟨h, q.k e⟩
  | .dk _, _, ⟨ws, h, q⟩ => ⟨ws, h, q.k e⟩
  | .raw _ _, _, ⟨h, q, r⟩ => ⟨h, q, fun t ht => (r t ht).k e⟩
theorem CtOk.nt {K : PySem.W.Frag} {H : Hp} : ∀ {c : Ct} {o : HO}, CtOk K H c o → ∀ xs, o ≠ .tup xs
  | .lst _, _, ⟨vs, h, _⟩, xs => by rw [h]; intro q; cases q
  | .fix _ _, _, ⟨h, _⟩, xs => by rw [h]; intro q; cases q
  | .dk _, _, ⟨ws, h, _⟩, xs => by rw [h]; intro q; cases q
  | .raw _ _, _, ⟨h, n, _⟩, xs => by rw [h]; exact n xs
inductive Sl where
  /-- nothing is known -/
  | any
  /-- data without lists -/
  | t (d : PyData)
  /-- a list, a dict of our own -/
  | w (a : Addr) (c : Ct)
  /-- a list that is only read -/
  | r (ds : List PyData)
  | v (x : V)
def SlOk (K : PySem.W.Frag) (H0 H : Hp) (σ : L2.St) (i : Nat) : Sl → Prop
  | .any => True
  | .t d => ∃ v, σ[i]? = some (some v) ∧ Td K H v d
  | .w a c => σ[i]? = some (some (.ref a)) ∧ H0 a = none ∧ ∃ o, H a = some o ∧ CtOk K H c o
  | .r ds => ∃ a vs, σ[i]? = some (some (.ref a)) ∧ SqL K H0 a vs ∧ TdAll K H0 vs ds
  | .v x => σ[i]? = some (some x)
structure Rel (K : PySem.W.Frag) (H0 Hk H : Hp) (σ : L2.St) (Γ : List Sl) : Prop where
  base : Same H0 H
  keep : Keep Hk H
  len : σ.length = Γ.length
  sl : ∀ (i : Nat) (s : Sl), Γ[i]? = some s → SlOk K H0 H σ i s
  own : ∀ (i j : Nat) (a b : Addr) (c c' : Ct), i ≠ j → Γ[i]? = some (Sl.w a c) → Γ[j]? = some (Sl.w b c') → a ≠ b
section
variable {K : PySem.W.Frag} {H0 Hk H H' H1 : Hp} {σ σ' : L2.St} {Γ Γ' : List Sl}
theorem SlOk.same {i : Nat} (e : Same H H') : ∀ {s : Sl}, SlOk K H0 H σ i s → SlOk K H0 H' σ i s
  | .any, _ => trivial
  | .t _, ⟨v, h, q⟩ => ⟨v, h, q.same e⟩
  | .w _ _, ⟨h, n, o, q, c⟩ => ⟨h, n, o, e _ _ q, c.k (keep_same e)⟩
  | .r _, h => h
  | .v _, h => h
theorem Rel.same (R : Rel K H0 Hk H σ Γ) (e : Same H H') : Rel K H0 Hk H' σ Γ := ⟨R.base.trans e, R.keep.trans (keep_same e), R.len, fun i s h => (R.sl i s h).same e, R.own⟩
theorem get_set {α : Type} {l : List α} {i j : Nat} {x y : α} (h : (l.set i x)[j]? = some y) : (j = i ∧ y = x ∧ i < l.length) ∨ (j ≠ i ∧ l[j]? = some y) := by
  by_cases e : j = i
  · subst e
    by_cases hl : j < l.length
    · rw [List.getElem?_set_self hl] at h
      exact .inl ⟨rfl, (Option.some.inj h).symm, hl⟩
    · rw [List.getElem?_eq_none (by rw [List.length_set]; omega)] at h
      cases h
  · rw [List.getElem?_set_ne (Ne.symm e)] at h
    exact .inr ⟨e, h⟩
/-- a slot's content from outside the others -/
theorem SlOk.other {i j : Nat} {x : Option V} (n : i ≠ j) : ∀ {s : Sl}, SlOk K H0 H σ i s → SlOk K H0 H (σ.set j x) i s
  | .any, _ => trivial
  | .t _, ⟨v, h, q⟩ => ⟨v, by rw [List.getElem?_set_ne (Ne.symm n)]; exact h, q⟩
  | .w _ _, ⟨h, q⟩ => ⟨by rw [List.getElem?_set_ne (Ne.symm n)]; exact h, q⟩
  | .r _, ⟨a, vs, h, q⟩ => ⟨a, vs, by rw [List.getElem?_set_ne (Ne.symm n)]; exact h, q⟩
  | .v _, h => by
    show (σ.set j x)[i]? = _
    rw [List.getElem?_set_ne (Ne.symm n)]
    exact h
theorem Rel.set_t (R : Rel K H0 Hk H σ Γ) (i : Nat) {v : V} {d : PyData} (h : Td K H v d) : Rel K H0 Hk H (σ.set i (some v)) (Γ.set i (.t d)) := by
  refine ⟨R.base, R.keep, by rw [List.length_set, List.length_set]; exact R.len, fun j s hs => ?_, fun j k a b c c' n h1 h2 => ?_⟩
  · rcases get_set hs with ⟨rfl, rfl, hl⟩ | ⟨n, h'⟩
    · exact ⟨v, List.getElem?_set_self (by rw [R.len]; exact hl), h⟩
    · exact (R.sl j s h').other n
  · rcases get_set h1 with ⟨_, e, _⟩ | ⟨_, h1'⟩
    · cases e
    · rcases get_set h2 with ⟨_, e, _⟩ | ⟨_, h2'⟩
      · cases e
      · exact R.own j k a b c c' n h1' h2'
theorem Rel.set_v (R : Rel K H0 Hk H σ Γ) (i : Nat) (v : V) : Rel K H0 Hk H (σ.set i (some v)) (Γ.set i (.v v)) := by
  refine ⟨R.base, R.keep, by rw [List.length_set, List.length_set]; exact R.len, fun j s hs => ?_, fun j k a b c c' n h1 h2 => ?_⟩
  · rcases get_set hs with ⟨rfl, rfl, hl⟩ | ⟨n, h'⟩
    · exact List.getElem?_set_self (by rw [R.len]; exact hl)
    · exact (R.sl j s h').other n
  · rcases get_set h1 with ⟨_, e, _⟩ | ⟨_, h1'⟩
    · cases e
    · rcases get_set h2 with ⟨_, e, _⟩ | ⟨_, h2'⟩
      · cases e
      · exact R.own j k a b c c' n h1' h2'
/-- a slot forgotten -/
theorem Rel.any (R : Rel K H0 Hk H σ Γ) (i : Nat) (x : Option V) : Rel K H0 Hk H (σ.set i x) (Γ.set i .any) := by
  refine ⟨R.base, R.keep, by rw [List.length_set, List.length_set]; exact R.len, fun j s hs => ?_, fun j k a b c c' n h1 h2 => ?_⟩
  · rcases get_set hs with ⟨rfl, rfl, hl⟩ | ⟨n, h'⟩
    · trivial
    · exact (R.sl j s h').other n
  · rcases get_set h1 with ⟨_, e, _⟩ | ⟨_, h1'⟩
    · cases e
    · rcases get_set h2 with ⟨_, e, _⟩ | ⟨_, h2'⟩
      · cases e
      · exact R.own j k a b c c' n h1' h2'
/-- a new object of our own goes to slot i; H is the heap ahead of its making -/
theorem Rel.set_w (R : Rel K H0 Hk H σ Γ) (i : Nat) {p : Addr} {o : HO} {c : Ct} (e : Same H H') (hp : H p = none) (ho : H' p = some o) (hc : CtOk K H' c o) : Rel K H0 Hk H' (σ.set i (some (.ref p))) (Γ.set i (.w p c)) := by
  have R' := R.same e
  have fresh : ∀ j a c', Γ[j]? = some (Sl.w a c') → a ≠ p := fun j a c' h => by
    obtain ⟨_, _, o, q, _⟩ := R.sl j _ h
    exact ne_of_none q hp
  refine ⟨R'.base, R'.keep, by rw [List.length_set, List.length_set]; exact R.len, fun j s hs => ?_, fun j k a b c1 c2 n h1 h2 => ?_⟩
  · rcases get_set hs with ⟨rfl, rfl, hl⟩ | ⟨n, h'⟩
    · exact ⟨List.getElem?_set_self (by rw [R.len]; exact hl), R.base.free hp, o, ho, hc⟩
    · exact (R'.sl j s h').other n
  · rcases get_set h1 with ⟨e1, e2, _⟩ | ⟨_, h1'⟩
    · injection e2 with e3 _
      subst e3
      rcases get_set h2 with ⟨e4, _, _⟩ | ⟨_, h2'⟩
      · exact absurd (e1.trans e4.symm) n
      · exact (fresh k b c2 h2').symm
    · rcases get_set h2 with ⟨_, e2, _⟩ | ⟨_, h2'⟩
      · injection e2 with e3 _
        subst e3
        exact fresh j a c1 h1'
      · exact R.own j k a b c1 c2 n h1' h2'
/-- our own object at slot i changes -/
theorem Rel.mut (R : Rel K H0 Hk H σ Γ) {i : Nat} {p : Addr} {c c' : Ct} {o' : HO} (h : Γ[i]? = some (Sl.w p c)) (hc : CtOk K H c' o') : Rel K H0 Hk (upd H p o') σ (Γ.set i (.w p c')) := by
  obtain ⟨hs, hn, o, ho, hco⟩ := R.sl i _ h
  have kp : Keep H (upd H p o') := keep_upd fun xs q => by
    rw [ho] at q
    exact hco.nt xs (Option.some.inj q)
  refine ⟨same_mut R.base hn, R.keep.trans kp, by rw [List.length_set]; exact R.len, fun j s hj => ?_, fun j k a b c1 c2 n h1 h2 => ?_⟩
  · rcases get_set hj with ⟨rfl, rfl, hl⟩ | ⟨n, h'⟩
    · exact ⟨hs, hn, o', upd_same, hc.k kp⟩
    · have q := R.sl j s h'
      cases s with
      | any => trivial
      | t d => obtain ⟨v, a, b⟩ := q; exact ⟨v, a, b.k kp⟩
      | w a c2 =>
        obtain ⟨q1, q2, o2, q3, q4⟩ := q
        exact ⟨q1, q2, o2, by rw [upd_ne (R.own j i a p c2 c n h' h)]; exact q3, q4.k kp⟩
      | r ds => exact q
      | v x => exact q
  · have back : ∀ {j a c1}, (Γ.set i (.w p c'))[j]? = some (Sl.w a c1) → ∃ c3, Γ[j]? = some (Sl.w a c3) := fun {j a c1} hj => by
      rcases get_set hj with ⟨rfl, e, _⟩ | ⟨_, h'⟩
      · injection e with e1 _
        subst e1
        exact ⟨c, h⟩
      · exact ⟨c1, h'⟩
    obtain ⟨c3, k1⟩ := back h1
    obtain ⟨c4, k2⟩ := back h2
    exact R.own j k a b c3 c4 n k1 k2
theorem Rel.rebase (R : Rel K H0 Hk H σ Γ) : Rel K H0 H H σ Γ := ⟨R.base, .refl H, R.len, R.sl, R.own⟩
theorem Rel.back (R : Rel K H0 Hk H σ Γ) {σ' : L2.St} {Γ' : List Sl} (R' : Rel K H0 H H' σ' Γ') : Rel K H0 Hk H' σ' Γ' := ⟨R'.base, R.keep.trans R'.keep, R'.len, R'.sl, R'.own⟩
/-- a slot of our own told in less words -/
theorem Rel.weak (R : Rel K H0 Hk H σ Γ) {i : Nat} {s s' : Sl} (h : Γ[i]? = some s) (f : SlOk K H0 H σ i s → SlOk K H0 H σ i s') (hw : ∀ a c, s' = Sl.w a c → ∃ c', s = Sl.w a c') : Rel K H0 Hk H σ (Γ.set i s') := by
  refine ⟨R.base, R.keep, by rw [List.length_set]; exact R.len, fun j u hj => ?_, fun j k a b c1 c2 n h1 h2 => ?_⟩
  · rcases get_set hj with ⟨rfl, rfl, hl⟩ | ⟨n, h'⟩
    · exact f (R.sl _ _ h)
    · exact R.sl j u h'
  · have back : ∀ {j a c1}, (Γ.set i s')[j]? = some (Sl.w a c1) → ∃ c3, Γ[j]? = some (Sl.w a c3) := fun {j a c1} hj => by
      rcases get_set hj with ⟨rfl, e, _⟩ | ⟨_, h'⟩
      · obtain ⟨c', e'⟩ := hw a c1 e.symm
        exact ⟨c', by rw [h, e']⟩
      · exact ⟨c1, h'⟩
    obtain ⟨c3, k1⟩ := back h1
    obtain ⟨c4, k2⟩ := back h2
    exact R.own j k a b c3 c4 n k1 k2
theorem Rel.forget (R : Rel K H0 Hk H σ Γ) (i : Nat) : Rel K H0 Hk H σ (Γ.set i .any) := by
  refine ⟨R.base, R.keep, by rw [List.length_set]; exact R.len, fun j u hj => ?_, fun j k a b c1 c2 n h1 h2 => ?_⟩
  · rcases get_set hj with ⟨rfl, rfl, hl⟩ | ⟨n, h'⟩
    · trivial
    · exact R.sl j u h'
  · rcases get_set h1 with ⟨_, e, _⟩ | ⟨_, h1'⟩
    · cases e
    · rcases get_set h2 with ⟨_, e, _⟩ | ⟨_, h2'⟩
      · cases e
      · exact R.own j k a b c1 c2 n h1' h2'
theorem Rel.eq (R : Rel K H0 Hk H σ Γ) (e : Γ = Γ') : Rel K H0 Hk H σ Γ' := e ▸ R
end

/-! ### the arguments of a call -/
inductive Ar where
  | t (d : PyData)
  | l (ds : List PyData)
  | v (x : V)
def ArOk (K : PySem.W.Frag) (H : Hp) : V → Ar → Prop
  | x, .t d => Td K H x d
  | x, .l ds => ∃ a vs, x = .ref a ∧ SqL K H a vs ∧ TdAll K H vs ds
  | x, .v y => x = y
def slOf : Ar → Sl
  | .t d => .t d
  | .l ds => .r ds
  | .v x => .v x
abbrev Ars (K : PySem.W.Frag) (H : Hp) : List V → List Ar → Prop := Paired (ArOk K H)
/-- the slots of a def at its start -/
def slots (N : List Str) (as : List Ar) : List Sl := as.map slOf ++ List.replicate (N.length - as.length) .any
theorem ars_get {K : PySem.W.Frag} {H : Hp} : ∀ {vs : List V} {as : List Ar} {i : Nat} {a : Ar}, Ars K H vs as → as[i]? = some a → ∃ v, vs[i]? = some v ∧ ArOk K H v a
  | _, _, _, _, .nil, e => by simp at e
  | _, _, 0, _, .cons r _, e => ⟨_, rfl, by rw [← Option.some.inj e]; exact r⟩
  | _, _, i + 1, _, .cons _ t, e => ars_get (i := i) t (by simpa using e)
theorem rel_start {K : PySem.W.Frag} {H : Hp} {N : List Str} {vs : List V} {as : List Ar} (h : Ars K H vs as) (hl : as.length ≤ N.length) : Rel K H H H (L2.start N vs) (slots N as) := by
  have e : vs.length = as.length := Paired.length h
  refine ⟨.refl H, .refl H, by unfold L2.start slots; simp only [List.length_append, List.length_map, List.length_replicate]; omega, fun i s hs => ?_, fun i j a b c c' _ h1 _ => ?_⟩
  · unfold slots at hs
    by_cases hi : i < as.length
    · rw [List.getElem?_append_left (by rw [List.length_map]; exact hi), List.getElem?_map, List.getElem?_eq_getElem hi] at hs
      obtain ⟨v, hv, hv2⟩ := ars_get h (List.getElem?_eq_getElem hi)
      have es : slOf as[i] = s := Option.some.inj hs
      have q : (L2.start N vs)[i]? = some (some v) := by
        unfold L2.start
        rw [List.getElem?_append_left (by rw [List.length_map, e]; exact hi), List.getElem?_map, hv]
        rfl
      rw [← es]
      generalize as[i] = a at hv2
      cases a with
      | t d => exact ⟨v, q, hv2⟩
      | l ds =>
        obtain ⟨a, ws, rfl, h1, h2⟩ := hv2
        exact ⟨a, ws, q, h1, h2⟩
      | v x =>
        have ex : v = x := hv2
        rw [ex] at q
        exact q
    · rw [List.getElem?_append_right (by rw [List.length_map]; omega), List.getElem?_replicate] at hs
      split at hs
      · rw [← Option.some.inj hs]
        trivial
      · cases hs
  · exfalso
    unfold slots at h1
    by_cases hi : i < as.length
    · rw [List.getElem?_append_left (by rw [List.length_map]; exact hi), List.getElem?_map, List.getElem?_eq_getElem hi] at h1
      have es : slOf as[i] = .w a c := Option.some.inj h1
      generalize as[i] = z at es
      cases z <;> cases es
    · rw [List.getElem?_append_right (by rw [List.length_map]; omega), List.getElem?_replicate] at h1
      split at h1 <;> cases h1

/-! ### what an expression is worth -/
section
variable (K : PySem.W.Frag)
def ET (te : TE) (σ : L2.St) (H : Hp) (d : PyData) : Prop := ∀ H1, Same H H1 → ∀ Q : VK, (∀ v H2, Same H1 H2 → Td K H2 v d → Q v H2) → te σ H1 Q
def EL (te : TE) (σ : L2.St) (H : Hp) (ds : List PyData) : Prop := ∀ H1, Same H H1 → ∀ Q : VK, (∀ p vs H2, H1 p = none → Same H1 H2 → H2 p = some (.lst vs) → TdAll K H2 vs ds → Q (.ref p) H2) → te σ H1 Q
def EA (ta : TA) (σ : L2.St) (H : Hp) (as : List Ar) : Prop := ∀ H1, Same H H1 → ∀ Q : List V → Hp → Prop, (∀ vs H2, Same H1 H2 → Ars K H2 vs as → Q vs H2) → ta σ H1 Q
/-- one argument -/
def E1 (te : TE) (σ : L2.St) (H : Hp) (a : Ar) : Prop := ∀ H1, Same H H1 → ∀ Q : VK, (∀ v H2, Same H1 H2 → ArOk K H2 v a → Q v H2) → te σ H1 Q
end
def EB (tt : TT) (σ : L2.St) (H : Hp) (b : Bool) : Prop := ∀ H1, Same H H1 → ∀ Q : Bool → Hp → Prop, (∀ H2, Same H1 H2 → Q b H2) → tt σ H1 Q

/-- the promise of a def of data -/
def spT (K : PySem.W.Frag) (P : List Ar → PyData → Prop) : Sp := fun vs H Q _ => ∃ as d, Ars K H vs as ∧ P as d ∧ ∀ v H', Same H H' → Td K H' v d → Q v H'
def spL (K : PySem.W.Frag) (P : List Ar → List PyData → Prop) : Sp := fun vs H Q _ => ∃ as ds, Ars K H vs as ∧ P as ds ∧ ∀ p xs H', H p = none → Same H H' → H' p = some (.lst xs) → TdAll K H' xs ds → Q (.ref p) H'
end CW

set_option maxRecDepth 100000
set_option maxHeartbeats 4000000
/-! The readings of the hand layer's rules over the typed environment. -/
namespace CW
open PySem PySem.Spec PyProof.Rows L2
open C8 (Cal Met Mak pe_c pe_mk pe_mt pe_mt0)
section
variable {K : PySem.W.Frag} {H0 Hk H H' : Hp} {σ : L2.St} {Γ : List Sl} {te ta tb tc : TE} {tr : TA} {tt tu : TT} {d e x : PyData} {ds es : List PyData} {b b' : Bool} {a a' : Ar} {as : List Ar} {i : Nat} {n m : Int}
theorem ET.up (q : Same H H') (h : ET K te σ H d) : ET K te σ H' d := fun H1 e Q k => h H1 (q.trans e) Q k
theorem EL.up (q : Same H H') (h : EL K te σ H ds) : EL K te σ H' ds := fun H1 e Q k => h H1 (q.trans e) Q k
theorem EB.up (q : Same H H') (h : EB tt σ H b) : EB tt σ H' b := fun H1 e Q k => h H1 (q.trans e) Q k
theorem E1.up (q : Same H H') (h : E1 K te σ H a) : E1 K te σ H' a := fun H1 e Q k => h H1 (q.trans e) Q k
theorem EA.up (q : Same H H') (h : EA K tr σ H as) : EA K tr σ H' as := fun H1 e Q k => h H1 (q.trans e) Q k
/-! ### leaves -/
theorem et_v (R : Rel K H0 Hk H σ Γ) (h : Γ[i]? = some (.t d)) : ET K (tVar i) σ H d := fun H1 e Q k => by
  obtain ⟨v, h1, h2⟩ := R.sl i _ h
  exact ⟨v, h1, k v H1 (.refl _) (h2.same e)⟩
theorem e1_r (R : Rel K H0 Hk H σ Γ) (h : Γ[i]? = some (.r ds)) : E1 K (tVar i) σ H (.l ds) := fun H1 e Q k => by
  obtain ⟨v, vs, h1, h2, h3⟩ := R.sl i _ h
  exact ⟨_, h1, k _ H1 (.refl _) ⟨v, vs, rfl, Same.seq (R.base.trans e) h2, h3.same (R.base.trans e)⟩⟩
theorem e1_w {p : Addr} (R : Rel K H0 Hk H σ Γ) (h : Γ[i]? = some (Sl.w p (.lst ds))) : E1 K (tVar i) σ H (.l ds) := fun H1 e Q k => by
  obtain ⟨h1, _, o, h2, vs, rfl, h4⟩ := R.sl i _ h
  exact ⟨_, h1, k _ H1 (.refl _) ⟨p, vs, rfl, .inl (.inl (e _ _ h2)), h4.same e⟩⟩
theorem e1_f {p : Addr} {vs : List V} (R : Rel K H0 Hk H σ Γ) (h : Γ[i]? = some (Sl.w p (.fix vs ds))) : E1 K (tVar i) σ H (.l ds) := fun H1 e Q k => by
  obtain ⟨h1, _, o, h2, rfl, h4⟩ := R.sl i _ h
  exact ⟨_, h1, k _ H1 (.refl _) ⟨p, vs, rfl, .inl (.inl (e _ _ h2)), h4.same e⟩⟩
theorem e1_v {z : V} (R : Rel K H0 Hk H σ Γ) (h : Γ[i]? = some (.v z)) : E1 K (tVar i) σ H (.v z) := fun H1 e Q k => ⟨z, R.sl i _ h, k z H1 (.refl _) rfl⟩
theorem et_int : ET K (tC (.int n)) σ H (.int n) := fun H1 _ _ k => k _ H1 (.refl _) (.int n)
theorem et_bl : ET K (tC (.bl b)) σ H (.bool b) := fun H1 _ _ k => k _ H1 (.refl _) (.bl b)
theorem et_str {z : Str} : ET K (tC (.str z)) σ H (.str z) := fun H1 _ _ k => k _ H1 (.refl _) (.str z)
theorem et_non : ET K (tC .non) σ H .none := fun H1 _ _ k => k _ H1 (.refl _) .non
/-- a constant of the module -/
theorem et_gt {p : Addr} {xs : List V} (h : ∀ H' : Hp, SqT K H' p xs) (q : ∀ H' : Hp, TdAll K H' xs ds) : ET K (tC (.ref p)) σ H (.tuple ds) := fun H1 _ _ k => k _ H1 (.refl _) (.tup (.inr h) (q H1))
theorem ET.e1 (h : ET K te σ H d) : E1 K te σ H (.t d) := h
theorem EL.e1 (h : EL K te σ H ds) : E1 K te σ H (.l ds) := fun H1 e Q k => h H1 e Q fun p vs H2 _ e2 h2 h3 => k _ H2 e2 ⟨p, vs, rfl, .inl (.inl h2), h3⟩
theorem ea_nil : EA K tNil σ H [] := fun H1 _ _ k => k [] H1 (.refl _) .nil
theorem ArOk.same (q : Same H H') : ∀ {v : V} {a : Ar}, ArOk K H v a → ArOk K H' v a
  | _, .t _, h => Td.same q h
  | _, .l _, ⟨a, vs, h, h1, h2⟩ => ⟨a, vs, h, Same.seq q h1, h2.same q⟩
  | _, .v _, h => h
theorem Ars.same (q : Same H H') : ∀ {vs : List V} {as : List Ar}, Ars K H vs as → Ars K H' vs as
  | _, _, .nil => .nil
  | _, _, .cons h t => .cons (h.same q) (Ars.same q t)
theorem ea_cons (h : E1 K ta σ H a) (t : EA K tr σ H as) : EA K (tCons ta tr) σ H (a :: as) := fun H1 e Q k =>
  h H1 e _ fun v H2 e2 h2 => t H2 (e.trans e2) _ fun vs H3 e3 h3 => k _ H3 (e2.trans e3) (.cons (h2.same e3) h3)
theorem ea_t (h : ET K ta σ H d) (t : EA K tr σ H as) : EA K (tCons ta tr) σ H (.t d :: as) := ea_cons h.e1 t
theorem ars_ts : ∀ {ds : List PyData} {vs : List V}, Ars K H vs (ds.map .t) → TdAll K H vs ds
  | [], _, h => by cases h; exact .nil
  | d :: ds, _, h => by
    have h' : Ars K H _ (.t d :: ds.map .t) := h
    cases h' with
    | cons a b => exact .cons a (ars_ts b)
/-! ### numbers -/
theorem et_i {g : Int → Int → Int} (ha : ET K ta σ H (.int n)) (hb : ET K tb σ H (.int m)) : ET K (tOp (rI0 fun i j => .int (g i j)) ta tb) σ H (.int (g n m)) := fun H1 e Q k =>
  ha H1 e _ fun v H2 e2 h2 => hb H2 (e.trans e2) _ fun u H3 e3 h3 => ⟨n, m, h2.i, h3.i, k _ H3 (e2.trans e3) (.int _)⟩
theorem et_iC {C : Int → Int → Prop} {g : Int → Int → Int} (ha : ET K ta σ H (.int n)) (hb : ET K tb σ H (.int m)) (hc : C n m) : ET K (tOp (rI C fun i j => .int (g i j)) ta tb) σ H (.int (g n m)) := fun H1 e Q k =>
  ha H1 e _ fun v H2 e2 h2 => hb H2 (e.trans e2) _ fun u H3 e3 h3 => ⟨n, m, h2.i, h3.i, hc, k _ H3 (e2.trans e3) (.int _)⟩
theorem et_ib {g : Int → Int → Bool} (ha : ET K ta σ H (.int n)) (hb : ET K tb σ H (.int m)) : ET K (tOp (rI0 fun i j => .bl (g i j)) ta tb) σ H (.bool (g n m)) := fun H1 e Q k =>
  ha H1 e _ fun v H2 e2 h2 => hb H2 (e.trans e2) _ fun u H3 e3 h3 => ⟨n, m, h2.i, h3.i, k _ H3 (e2.trans e3) (.bl _)⟩
theorem et_neg (ha : ET K ta σ H (.int n)) : ET K (tUn (rU fun i => .int (-i)) ta) σ H (.int (-n)) := fun H1 e Q k =>
  ha H1 e _ fun v H2 e2 h2 => ⟨n, h2.i, k _ H2 e2 (.int _)⟩
theorem et_abs (ha : ET K ta σ H (.int n)) : ET K (tCB (fun xs H Q => ∃ i : Int, xs = [.int i] ∧ Q (.int (if i < 0 then -i else i)) H) (tCons ta tNil)) σ H (.int (if n < 0 then -n else n)) := fun H1 e Q k =>
  ha H1 e _ fun v H2 e2 h2 => ⟨n, by rw [h2.i], k _ H2 e2 (.int _)⟩
/-! ### tests -/
theorem eb_t (h : ET K te σ H (.bool b)) : EB (tTest te) σ H b := fun H1 e Q k => h H1 e _ fun v H2 e2 h2 => ⟨b, h2.b, k H2 e2⟩
theorem eb_B (h : ET K te σ H (.bool b)) : EB (tB te) σ H b := fun H1 e Q k => h H1 e _ fun v H2 e2 h2 => ⟨b, h2.b, k H2 e2⟩
theorem eb_not (h : EB tt σ H b) : EB (tNot tt) σ H (!b) := fun H1 e Q k => h H1 e _ fun H2 e2 => k H2 e2
theorem eb_and (h : EB tt σ H b) (h' : b = true → EB tu σ H b') : EB (tAnd tt tu) σ H (b && b') := fun H1 e Q k => h H1 e _ fun H2 e2 => by
  cases b with
  | true => exact iteT (h' rfl H2 (e.trans e2) Q fun H3 e3 => k H3 (e2.trans e3))
  | false => exact iteF (k H2 e2)
theorem eb_or (h : EB tt σ H b) (h' : b = false → EB tu σ H b') : EB (tOr tt tu) σ H (b || b') := fun H1 e Q k => h H1 e _ fun H2 e2 => by
  cases b with
  | true => exact iteT (k H2 e2)
  | false => exact iteF (h' rfl H2 (e.trans e2) Q fun H3 e3 => k H3 (e2.trans e3))
theorem EB.eq (h : EB tt σ H b) (q : b = b') : EB tt σ H b' := q ▸ h
theorem ET.eq (h : ET K te σ H d) (q : d = e) : ET K te σ H e := q ▸ h
theorem EL.eq (h : EL K te σ H ds) (q : ds = es) : EL K te σ H es := q ▸ h
theorem et_andV (h : ET K ta σ H (.bool b)) (h' : b = true → ET K tb σ H (.bool b')) : ET K (tAndV ta tb) σ H (.bool (b && b')) := fun H1 e Q k => h H1 e _ fun v H2 e2 h2 => ⟨b, h2.b, by
  cases b with
  | true => exact iteT (h' rfl H2 (e.trans e2) Q fun v H3 e3 h3 => k v H3 (e2.trans e3) h3)
  | false => exact iteF (k _ H2 e2 (.bl _))⟩
theorem et_orV (h : ET K ta σ H (.bool b)) (h' : b = false → ET K tb σ H (.bool b')) : ET K (tOrV ta tb) σ H (.bool (b || b')) := fun H1 e Q k => h H1 e _ fun v H2 e2 h2 => ⟨b, h2.b, by
  cases b with
  | true => exact iteT (k _ H2 e2 (.bl _))
  | false => exact iteF (h' rfl H2 (e.trans e2) Q fun v H3 e3 h3 => k v H3 (e2.trans e3) h3)⟩
theorem et_notV (h : ET K ta σ H (.bool b)) : ET K (tNotV ta) σ H (.bool (!b)) := fun H1 e Q k => h H1 e _ fun v H2 e2 h2 => ⟨b, h2.b, k _ H2 e2 (.bl _)⟩
theorem et_if (h : EB tt σ H b) (h1 : b = true → ET K ta σ H d) (h2 : b = false → ET K tb σ H d) : ET K (tIf tt ta tb) σ H d := fun H1 e Q k => h H1 e _ fun H2 e2 => by
  cases b with
  | true => exact iteT (h1 rfl H2 (e.trans e2) Q fun v H3 e3 h3 => k v H3 (e2.trans e3) h3)
  | false => exact iteF (h2 rfl H2 (e.trans e2) Q fun v H3 e3 h3 => k v H3 (e2.trans e3) h3)
/-! ### tuples, lists -/
theorem sz1000 {n : Nat} (h : n ≤ 1000) : n ≤ sizeLine := Nat.le_of_lt (small1000 h)
theorem et_tup (h : EA K tr σ H (ds.map .t)) (hz : ds.length ≤ 1000 := by first | decide | simp) : ET K (tTup tr) σ H (.tuple ds) := fun H1 e Q k =>
  h H1 e _ fun vs H2 e2 h2 => by
    have q := ars_ts h2
    exact ⟨by rw [q.length]; exact sz1000 hz, fun p hp => k _ _ (e2.trans (same_upd hp)) (.tup (.inl upd_same) (q.same (same_upd hp)))⟩
theorem el_lst (h : EA K tr σ H (ds.map .t)) (hz : ds.length ≤ 1000 := by first | decide | simp) : EL K (tLst tr) σ H ds := fun H1 e Q k =>
  h H1 e _ fun vs H2 e2 h2 => by
    have q := ars_ts h2
    exact ⟨by rw [q.length]; exact sz1000 hz, fun p hp => k p vs _ (e2.free hp) (e2.trans (same_upd hp)) upd_same (q.same (same_upd hp))⟩
theorem el_nil : EL K (tLst tNil) σ H [] := el_lst (ds := []) ea_nil
theorem atI_d {vs : List V} {j : Int} (h : TdAll K H vs ds) (q : atI ds j = some d) : ∃ v, atI vs j = some v ∧ Td K H v d := by
  unfold atI at q ⊢
  rw [h.length]
  cases e : ixN ds.length j with
  | none => rw [e] at q; cases q
  | some k =>
    rw [e] at q
    exact h.get q
theorem et_ixT (ha : ET K ta σ H (.tuple ds)) (hb : ET K tb σ H (.int n)) (h : atI ds n = some d) : ET K (tOp (rIxT K) ta tb) σ H d := fun H1 e Q k =>
  ha H1 e _ fun v H2 e2 h2 => hb H2 (e.trans e2) _ fun u H3 e3 h3 => by
    obtain ⟨p, xs, rfl, t, q⟩ := (h2.same e3).t
    obtain ⟨z, hz, hd⟩ := atI_d q h
    exact ⟨p, xs, n, z, rfl, h3.i, t.sq, hz, k z H3 (e2.trans e3) hd⟩
theorem et_ixL (ha : E1 K ta σ H (.l ds)) (hb : ET K tb σ H (.int n)) (h : atI ds n = some d) : ET K (tOp (rIxL K) ta tb) σ H d := fun H1 e Q k =>
  ha H1 e _ fun v H2 e2 h2 => hb H2 (e.trans e2) _ fun u H3 e3 h3 => by
    obtain ⟨p, xs, rfl, t, q⟩ := h2.same e3
    obtain ⟨z, hz, hd⟩ := atI_d q h
    exact ⟨p, xs, n, z, rfl, h3.i, t, hz, k z H3 (e2.trans e3) hd⟩
theorem et_lenT (ha : ET K ta σ H (.tuple ds)) : ET K (tCB (fun xs H Q => ∃ p ys, xs = [.ref p] ∧ (SqL K H p ys ∨ SqT K H p ys) ∧ Q (.int ys.length) H) (tCons ta tNil)) σ H (.int ds.length) := fun H1 e Q k =>
  ha H1 e _ fun v H2 e2 h2 => by
    obtain ⟨p, xs, rfl, t, q⟩ := h2.t
    exact ⟨p, xs, rfl, .inr t.sq, by rw [q.length]; exact k _ H2 e2 (.int _)⟩
theorem et_lenL (ha : E1 K ta σ H (.l ds)) : ET K (tCB (fun xs H Q => ∃ p ys, xs = [.ref p] ∧ (SqL K H p ys ∨ SqT K H p ys) ∧ Q (.int ys.length) H) (tCons ta tNil)) σ H (.int ds.length) := fun H1 e Q k =>
  ha H1 e _ fun v H2 e2 h2 => by
    obtain ⟨p, xs, rfl, t, q⟩ := h2
    exact ⟨p, xs, rfl, .inl t, by rw [q.length]; exact k _ H2 e2 (.int _)⟩
/-- tuple(a list) -/
theorem et_tupleL (ha : E1 K ta σ H (.l ds)) : ET K (tCB (fun xs H Q => ∃ p ys, xs = [.ref p] ∧ ((SqL K H p ys ∧ ∀ l, H l = none → Q (.ref l) (upd H l (.tup ys))) ∨ (SqT K H p ys ∧ Q (.ref p) H))) (tCons ta tNil)) σ H (.tuple ds) := fun H1 e Q k =>
  ha H1 e _ fun v H2 e2 h2 => by
    obtain ⟨p, xs, rfl, t, q⟩ := h2
    exact ⟨p, xs, rfl, .inl ⟨t, fun l hl => k _ _ (e2.trans (same_upd hl)) (.tup (.inl upd_same) (q.same (same_upd hl)))⟩⟩
/-- list(a tuple) -/
theorem el_listT (ha : ET K ta σ H (.tuple ds)) : EL K (tCB (fun xs H Q => ∃ p ys, xs = [.ref p] ∧ (SqL K H p ys ∨ SqT K H p ys) ∧ ∀ l, H l = none → Q (.ref l) (upd H l (.lst ys))) (tCons ta tNil)) σ H ds := fun H1 e Q k =>
  ha H1 e _ fun v H2 e2 h2 => by
    obtain ⟨p, xs, rfl, t, q⟩ := h2.t
    exact ⟨p, xs, rfl, .inr t.sq, fun l hl => k l xs _ (e2.free hl) (e2.trans (same_upd hl)) upd_same (q.same (same_upd hl))⟩
/-! ### calls of defs -/
theorem et_call {P : List Ar → PyData → Prop} {E : XK} (h : EA K tr σ H as) (p : P as d) : ET K (tCall (spT K P) [] E tr) σ H d := fun H1 e Q k =>
  h H1 e _ fun vs H2 e2 h2 => ⟨as, d, by rw [List.append_nil]; exact h2, p, fun v H' e3 h3 => k v H' (e2.trans e3) h3⟩
theorem el_call {P : List Ar → List PyData → Prop} {E : XK} (h : EA K tr σ H as) (p : P as ds) : EL K (tCall (spL K P) [] E tr) σ H ds := fun H1 e Q k =>
  h H1 e _ fun vs H2 e2 h2 => ⟨as, ds, by rw [List.append_nil]; exact h2, p, fun q xs H' hq e3 h3 h4 => k q xs H' (e2.free hq) (e2.trans e3) h3 h4⟩
/-! ### equality, membership -/
theorem et_eqI (ha : ET K ta σ H (.int n)) (hb : ET K tb σ H (.int m)) : ET K (tOp rEq ta tb) σ H (.bool (decide (n = m))) := fun H1 q Q k =>
  ha H1 q _ fun v H2 e2 h3 => hb H2 (q.trans e2) _ fun u H3 e3 h4 => by
    have h1 := h3.i
    have h2 := h4.i
    subst h1 h2
    refine ⟨rfl, ?_⟩
    rw [show decide (V.int n = V.int m) = decide (n = m) by simp]
    exact k _ H3 (e2.trans e3) (.bl _)
theorem et_neI (ha : ET K ta σ H (.int n)) (hb : ET K tb σ H (.int m)) : ET K (tOp rNe ta tb) σ H (.bool (!decide (n = m))) := fun H1 q Q k =>
  ha H1 q _ fun v H2 e2 h3 => hb H2 (q.trans e2) _ fun u H3 e3 h4 => by
    have h1 := h3.i
    have h2 := h4.i
    subst h1 h2
    refine ⟨rfl, ?_⟩
    rw [show decide (V.int n = V.int m) = decide (n = m) by simp]
    exact k _ H3 (e2.trans e3) (.bl _)
theorem et_eqS {y z : Str} (ha : ET K ta σ H (.str y)) (hb : ET K tb σ H (.str z)) : ET K (tOp rEq ta tb) σ H (.bool (decide (y = z))) := fun H1 q Q k =>
  ha H1 q _ fun v H2 e2 h3 => hb H2 (q.trans e2) _ fun u H3 e3 h4 => by
    have h1 := h3.s
    have h2 := h4.s
    subst h1 h2
    refine ⟨rfl, ?_⟩
    rw [show decide (V.str y = V.str z) = decide (y = z) by simp]
    exact k _ H3 (e2.trans e3) (.bl _)
theorem et_eqD (ha : ET K ta σ H d) (hb : ET K tb σ H e) (h1 : SeqAt.shaped d = true) (h2 : SeqAt.shaped e = true) : ET K (tOp (rEqD K) ta tb) σ H (.bool (PyData.eqv d e)) := fun H1 q Q k =>
  ha H1 q _ fun v H2 e2 h3 => hb H2 (q.trans e2) _ fun u H3 e3 h4 => ⟨d, e, Td.dp _ _ (h3.same e3), Td.dp _ _ h4, h1, h2, k _ H3 (e2.trans e3) (.bl _)⟩
theorem et_neD (ha : ET K ta σ H d) (hb : ET K tb σ H e) (h1 : SeqAt.shaped d = true) (h2 : SeqAt.shaped e = true) : ET K (tOp (rNeD K) ta tb) σ H (.bool (!PyData.eqv d e)) := fun H1 q Q k =>
  ha H1 q _ fun v H2 e2 h3 => hb H2 (q.trans e2) _ fun u H3 e3 h4 => ⟨d, e, Td.dp _ _ (h3.same e3), Td.dp _ _ h4, h1, h2, k _ H3 (e2.trans e3) (.bl _)⟩
theorem flat_ints : ∀ ns : List Int, (ns.map V.int).all flatV = true
  | [] => rfl
  | _ :: ns => flat_ints ns
theorem inV_ints (n : Int) : ∀ ns : List Int, inV (.int n) (ns.map V.int) = ns.contains n
  | [] => rfl
  | z :: ns => by
    have ih := inV_ints n ns
    have e : eqV (.int z) (.int n) = (n == z) := by
      show decide (z = n) = decide (n = z)
      by_cases h : z = n
      · subst h; rfl
      · rw [decide_eq_false h, decide_eq_false (fun q => h q.symm)]
    show (eqV (.int z) (.int n) || inV (.int n) (ns.map V.int)) = _
    rw [ih, e, List.contains_cons]
theorem et_inT {ns : List Int} (ha : ET K ta σ H (.int n)) (hb : ET K tb σ H (.tuple (ns.map .int))) : ET K (tOp (rIn K false) ta tb) σ H (.bool (ns.contains n)) := fun H1 q Q k =>
  ha H1 q _ fun v H2 e2 h3 => hb H2 (q.trans e2) _ fun u H3 e3 h4 => by
    obtain ⟨p, xs, rfl, t, z⟩ := h4.t
    obtain rfl := z.ints
    have hv := h3.i
    subst hv
    refine ⟨p, _, rfl, .inr t.sq, rfl, flat_ints ns, ?_⟩
    show Q (.bl (inV (.int n) (ns.map V.int))) H3
    rw [inV_ints]
    exact k _ H3 (e2.trans e3) (.bl _)
theorem et_ninT {ns : List Int} (ha : ET K ta σ H (.int n)) (hb : ET K tb σ H (.tuple (ns.map .int))) : ET K (tOp (rIn K true) ta tb) σ H (.bool (!ns.contains n)) := fun H1 q Q k =>
  ha H1 q _ fun v H2 e2 h3 => hb H2 (q.trans e2) _ fun u H3 e3 h4 => by
    obtain ⟨p, xs, rfl, t, z⟩ := h4.t
    obtain rfl := z.ints
    have hv := h3.i
    subst hv
    refine ⟨p, _, rfl, .inr t.sq, rfl, flat_ints ns, ?_⟩
    show Q (.bl (!inV (.int n) (ns.map V.int))) H3
    rw [inV_ints]
    exact k _ H3 (e2.trans e3) (.bl _)
theorem et_inL {ns : List Int} (ha : ET K ta σ H (.int n)) (hb : E1 K tb σ H (.l (ns.map .int))) : ET K (tOp (rIn K false) ta tb) σ H (.bool (ns.contains n)) := fun H1 q Q k =>
  ha H1 q _ fun v H2 e2 h3 => hb H2 (q.trans e2) _ fun u H3 e3 h4 => by
    obtain ⟨p, xs, rfl, t, z⟩ := h4
    obtain rfl := z.ints
    have hv := h3.i
    subst hv
    refine ⟨p, _, rfl, .inl t, rfl, flat_ints ns, ?_⟩
    show Q (.bl (inV (.int n) (ns.map V.int))) H3
    rw [inV_ints]
    exact k _ H3 (e2.trans e3) (.bl _)
theorem et_ninL {ns : List Int} (ha : ET K ta σ H (.int n)) (hb : E1 K tb σ H (.l (ns.map .int))) : ET K (tOp (rIn K true) ta tb) σ H (.bool (!ns.contains n)) := fun H1 q Q k =>
  ha H1 q _ fun v H2 e2 h3 => hb H2 (q.trans e2) _ fun u H3 e3 h4 => by
    obtain ⟨p, xs, rfl, t, z⟩ := h4
    obtain rfl := z.ints
    have hv := h3.i
    subst hv
    refine ⟨p, _, rfl, .inl t, rfl, flat_ints ns, ?_⟩
    show Q (.bl (!inV (.int n) (ns.map V.int))) H3
    rw [inV_ints]
    exact k _ H3 (e2.trans e3) (.bl _)
theorem et_any {bs : List Bool} (ha : E1 K ta σ H (.l (bs.map .bool))) : ET K (tCB (rAny K) (tCons ta tNil)) σ H (.bool (bs.any id)) := fun H1 q Q k =>
  ha H1 q _ fun v H2 e2 h2 => by
    obtain ⟨p, xs, rfl, t, z⟩ := h2
    obtain rfl := z.bls
    exact ⟨p, bs, rfl, t, k _ H2 e2 (.bl _)⟩
theorem et_all {bs : List Bool} (ha : E1 K ta σ H (.l (bs.map .bool))) : ET K (tCB (rAll K) (tCons ta tNil)) σ H (.bool (bs.all id)) := fun H1 q Q k =>
  ha H1 q _ fun v H2 e2 h2 => by
    obtain ⟨p, xs, rfl, t, z⟩ := h2
    obtain rfl := z.bls
    exact ⟨p, bs, rfl, t, k _ H2 e2 (.bl _)⟩
end
/-! ### comprehensions -/
section
variable {α : Type} {K : PySem.W.Frag} {H0 Hk H H' : Hp} {σ : L2.St} {Γ : List Sl} {te tl : TE} {tt : TT} {xs : List α} {enc : α → PyData} {i : Nat} {p : α → Bool} {f : α → PyData}
theorem wipe1 (σ : L2.St) (i : Nat) (x : Option V) : (wipe σ [i]).set i x = σ.set i x := by
  show ((σ.set i none).set i x) = _
  rw [List.set_set]
theorem wipe2 (σ : L2.St) (i : Nat) (x : Option V) : wipe (σ.set i x) [i] = wipe σ [i] := by
  show (σ.set i x).set i none = σ.set i none
  rw [List.set_set]
theorem map_get {n : Nat} {d : PyData} (h : (xs.map enc)[n]? = some d) : ∃ x, xs[n]? = some x ∧ enc x = d := by
  rw [List.getElem?_map] at h
  cases q : xs[n]? with
  | none => rw [q] at h; cases h
  | some x => rw [q] at h; exact ⟨x, rfl, Option.some.inj h⟩
/-- what a comprehension over given values yields -/
theorem comp_core {vs : List V} {H1 : Hp} (R : Rel K H0 Hk H σ Γ) (e1 : Same H H1) (hx : TdAll K H1 vs (xs.map enc)) (hz : xs.length ≤ 100000)
    (el : ∀ (n : Nat) (x : α), xs[n]? = some x → ∀ σ' H', Rel K H0 Hk H' σ' (Γ.set i (.t (enc x))) → Same H H' → EB tt σ' H' (p x) ∧ (p x = true → ET K te σ' H' (f x))) {D : Addr} (hD : H1 D = none) :
    ∃ Pv : Nat → Hp → Prop, Pv 0 (upd H1 D (.lst [])) ∧ (∀ n H', Pv n H' → Same H1 H') ∧
      (∀ n x H', vs[n]? = some x → Pv n H' → gName i x (wipe σ [i]) H' fun σ2 H2 => wipe σ2 [i] = wipe σ [i] ∧ tt σ2 H2 fun b H3 =>
        if b = true then te σ2 H3 fun y H4 => ∃ acc, H4 D = some (.lst acc) ∧ acc.length < sizeLine ∧ Pv (n + 1) (upd H4 D (.lst (acc ++ [y]))) else Pv (n + 1) H3) ∧
      (∀ H', Pv vs.length H' → ∃ acc, H' D = some (.lst acc) ∧ TdAll K H' acc ((xs.filter p).map f) ∧ Same H1 H') := by
  refine ⟨fun n H' => Same H1 H' ∧ ∃ acc, H' D = some (.lst acc) ∧ TdAll K H' acc (((xs.take n).filter p).map f), ⟨same_upd hD, [], upd_same, .nil⟩, fun n H' h => h.1, fun n v H' hn ⟨e2, acc, hacc, tacc⟩ => ?_, fun H' ⟨e2, acc, hacc, tacc⟩ => ?_⟩
  · obtain ⟨d, hd0, td⟩ := hx.get' hn
    obtain ⟨x, hd, rfl⟩ := map_get hd0
    have R2 : Rel K H0 Hk H' (σ.set i (some v)) (Γ.set i (.t (enc x))) := (R.same (e1.trans e2)).set_t i (td.same e2)
    obtain ⟨h1, h2⟩ := el n x hd _ H' R2 (e1.trans e2)
    have et : (xs.take (n + 1)).filter p = (xs.take n).filter p ++ (if p x = true then [x] else []) := by
      rw [List.take_add_one, hd, List.filter_append]
      cases q : p x <;> simp [q]
    have hla : acc.length < sizeLine := by
      rw [tacc.length, List.length_map]
      refine Nat.lt_of_le_of_lt (Nat.le_trans (List.length_filter_le _ _) ?_) (show 100000 < sizeLine by decide)
      rw [List.length_take]
      omega
    show wipe ((wipe σ [i]).set i (some v)) [i] = wipe σ [i] ∧ _
    rw [wipe1]
    refine ⟨wipe2 _ _ _, h1 H' (.refl _) _ fun H3 e3 => ?_⟩
    cases q : p x with
    | false =>
      refine iteF ⟨e2.trans e3, acc, e3 _ _ hacc, ?_⟩
      rw [et, q, if_neg Bool.false_ne_true, List.append_nil]
      exact tacc.same e3
    | true =>
      refine iteT (h2 q H3 e3 _ fun y H4 e4 t4 => ⟨acc, e4 _ _ (e3 _ _ hacc), hla, ?_⟩)
      have nt : ∀ ys, H4 D ≠ some (.tup ys) := fun ys z => by
        rw [e4 _ _ (e3 _ _ hacc)] at z
        cases z
      refine ⟨same_mut ((e2.trans e3).trans e4) hD, acc ++ [y], upd_same, ?_⟩
      rw [et, q, if_pos rfl, List.map_append]
      exact (TdAll.snoc ((tacc.same e3).same e4) t4).k (keep_upd nt)
  · rw [hx.length, List.length_map, List.take_length] at tacc
    exact ⟨acc, hacc, tacc, e2⟩
theorem el_compT (R : Rel K H0 Hk H σ Γ) (hs : ET K tl σ H (.tuple (xs.map enc))) (hz : xs.length ≤ 100000)
    (el : ∀ (n : Nat) (x : α), xs[n]? = some x → ∀ σ' H', Rel K H0 Hk H' σ' (Γ.set i (.t (enc x))) → Same H H' → EB tt σ' H' (p x) ∧ (p x = true → ET K te σ' H' (f x))) :
    EL K (tLc (iTup K tl) (gName i) tt te [i]) σ H ((xs.filter p).map f) := fun H1 e Q k =>
  hs H1 e _ fun v H2 e2 h2 => by
    obtain ⟨a, vs, rfl, t, q⟩ := h2.t
    refine ⟨a, rfl, ⟨vs, t.sq⟩, fun D hD => ?_⟩
    obtain ⟨Pv, g0, g1, g2, g3⟩ := comp_core (H1 := H2) R (e.trans e2) q hz el hD
    refine lc_tup (K := K) (a := a) (xs := vs) Pv g0 (fun n H' _ h => (t.keep (keep_same (g1 n H' h))).sq) g2 fun H' h => ?_
    obtain ⟨acc, k1, k2, k3⟩ := g3 H' h
    exact k D acc H' (e2.free hD) (e2.trans k3) k1 k2
theorem el_compL (R : Rel K H0 Hk H σ Γ) (hs : E1 K tl σ H (.l (xs.map enc))) (hz : xs.length ≤ 100000)
    (el : ∀ (n : Nat) (x : α), xs[n]? = some x → ∀ σ' H', Rel K H0 Hk H' σ' (Γ.set i (.t (enc x))) → Same H H' → EB tt σ' H' (p x) ∧ (p x = true → ET K te σ' H' (f x))) :
    EL K (tLc (iList K tl) (gName i) tt te [i]) σ H ((xs.filter p).map f) := fun H1 e Q k =>
  hs H1 e _ fun v H2 e2 h2 => by
    obtain ⟨a, vs, rfl, t, q⟩ := h2
    refine ⟨a, rfl, ⟨vs, t⟩, fun D hD => ?_⟩
    obtain ⟨Pv, g0, g1, g2, g3⟩ := comp_core (H1 := H2) R (e.trans e2) q hz el hD
    refine lc_list (K := K) (a := a) (xs := vs) Pv g0 (fun n H' _ h => Same.seq (g1 n H' h) t) g2 fun H' h => ?_
    obtain ⟨acc, k1, k2, k3⟩ := g3 H' h
    exact k D acc H' (e2.free hD) (e2.trans k3) k1 k2
theorem eb_yes : EB tYes σ H true := fun H1 _ _ k => k H1 (.refl _)
/-- [f(x) for x in a tuple] -/
theorem el_mapT (R : Rel K H0 Hk H σ Γ) (hs : ET K tl σ H (.tuple (xs.map enc))) (hz : xs.length ≤ 100000)
    (el : ∀ (n : Nat) (x : α), xs[n]? = some x → ∀ σ' H', Rel K H0 Hk H' σ' (Γ.set i (.t (enc x))) → Same H H' → ET K te σ' H' (f x)) : EL K (tLc (iTup K tl) (gName i) tYes te [i]) σ H (xs.map f) :=
  (el_compT (p := fun _ => true) R hs hz fun n d hd σ' H' R' e' => ⟨eb_yes, fun _ => el n d hd σ' H' R' e'⟩).eq (by rw [List.filter_eq_self.mpr fun _ _ => rfl])
theorem el_mapL (R : Rel K H0 Hk H σ Γ) (hs : E1 K tl σ H (.l (xs.map enc))) (hz : xs.length ≤ 100000)
    (el : ∀ (n : Nat) (x : α), xs[n]? = some x → ∀ σ' H', Rel K H0 Hk H' σ' (Γ.set i (.t (enc x))) → Same H H' → ET K te σ' H' (f x)) : EL K (tLc (iList K tl) (gName i) tYes te [i]) σ H (xs.map f) :=
  (el_compL (p := fun _ => true) R hs hz fun n d hd σ' H' R' e' => ⟨eb_yes, fun _ => el n d hd σ' H' R' e'⟩).eq (by rw [List.filter_eq_self.mpr fun _ _ => rfl])
end
/-! ### statements -/
section
variable {K : PySem.W.Frag} {H0 Hk H H' : Hp} {σ : L2.St} {Γ : List Sl} {te ta tb : TE} {tt : TT} {t u : TS} {D : Ends} {d : PyData} {ds : List PyData} {b : Bool} {i : Nat}
theorem sq (h : t { D with nx := u D } σ H) : tSeq t u D σ H := h
theorem s_set (R : Rel K H0 Hk H σ Γ) (h : ET K te σ H d) (k : ∀ σ' H', Same H H' → Rel K H0 Hk H' σ' (Γ.set i (.t d)) → D.nx σ' H') : tAsg te (gName i) D σ H :=
  h H (.refl _) _ fun v H2 e2 h2 => k _ H2 e2 ((R.same e2).set_t i h2)
theorem s_setL (R : Rel K H0 Hk H σ Γ) (h : EL K te σ H ds) (k : ∀ p σ' H', Same H H' → Rel K H0 Hk H' σ' (Γ.set i (Sl.w p (.lst ds))) → D.nx σ' H') : tAsg te (gName i) D σ H :=
  h H (.refl _) _ fun p vs H2 hp e2 h2 h3 => k p _ H2 e2 (R.set_w i e2 hp h2 ⟨vs, rfl, h3⟩)
theorem s_ret {Q : VK} {nx bk ct : L2.St → Hp → Prop} (h : ET K te σ H d) (k : ∀ v H', Same H H' → Td K H' v d → Q v H') : tRet te ⟨nx, Q, bk, ct⟩ σ H :=
  h H (.refl _) _ fun v H2 e2 h2 => k v H2 e2 h2
theorem s_retT {Q : VK} {nx bk ct : L2.St → Hp → Prop} (R : Rel K H0 Hk H σ Γ) (h : ET K te σ H d) (k : ∀ v H', Same H0 H' → Td K H' v d → Q v H') : tRet te ⟨nx, Q, bk, ct⟩ σ H :=
  s_ret h fun v H' e q => k v H' (R.base.trans e) q
theorem s_retL {Q : VK} {nx bk ct : L2.St → Hp → Prop} (R : Rel K H0 Hk H σ Γ) (h : EL K te σ H ds) (k : ∀ p xs H', H0 p = none → Same H0 H' → H' p = some (.lst xs) → TdAll K H' xs ds → Q (.ref p) H') : tRet te ⟨nx, Q, bk, ct⟩ σ H :=
  h H (.refl _) _ fun p vs H2 hp e2 h2 h3 => k p vs H2 (R.base.free hp) (R.base.trans e2) h2 h3
theorem s_retW {Q : VK} {nx bk ct : L2.St → Hp → Prop} {p : Addr} (R : Rel K H0 Hk H σ Γ) (h : Γ[i]? = some (Sl.w p (.lst ds))) (k : ∀ p xs H', H0 p = none → Same H0 H' → H' p = some (.lst xs) → TdAll K H' xs ds → Q (.ref p) H') : tRet (tVar i) ⟨nx, Q, bk, ct⟩ σ H := by
  obtain ⟨h1, h2, o, h3, vs, rfl, h5⟩ := R.sl i _ h
  exact ⟨_, h1, k p vs H h2 R.base h3 h5⟩
theorem s_if (h : EB tt σ H b) (h1 : b = true → ∀ H', Same H H' → t D σ H') (h2 : b = false → ∀ H', Same H H' → u D σ H') : tIfS tt t u D σ H :=
  h H (.refl _) _ fun H2 e2 => by
    cases b with
    | true => exact iteT (h1 rfl H2 e2)
    | false => exact iteF (h2 rfl H2 e2)
theorem s_append {p : Addr} (R : Rel K H0 Hk H σ Γ) (h : Γ[i]? = some (Sl.w p (.lst ds))) (he : ET K te σ H d) (hz : ds.length ≤ 100000) (k : ∀ H', Rel K H0 Hk H' σ (Γ.set i (Sl.w p (.lst (ds ++ [d])))) → D.nx σ H') :
    tDrop (tBM K "list" rAppend (tVar i) (tCons te tNil)) D σ H := by
  obtain ⟨h1, h2, o, h3, vs, rfl, h5⟩ := R.sl i _ h
  refine ⟨_, h1, .inl ⟨rfl, _, SqL.of h3⟩, he H (.refl _) _ fun v H2 e2 t2 => ?_⟩
  have R2 := R.same e2
  refine ⟨p, vs, v, rfl, rfl, e2 _ _ h3, by rw [h5.length]; exact Nat.lt_of_le_of_lt hz (by decide), ?_⟩
  exact k _ (R2.mut h ⟨vs ++ [v], rfl, (h5.same e2).snoc t2⟩)
/-- the loop's state: what the slots hold is one of I n -/
def At (K : PySem.W.Frag) (H0 Hk : Hp) (I : Nat → List Sl → Prop) (n : Nat) (σ : L2.St) (H : Hp) : Prop := ∃ Γ, I n Γ ∧ Rel K H0 Hk H σ Γ
theorem s_forT (R : Rel K H0 Hk H σ Γ) (I : Nat → List Sl → Prop) (hs : ET K te σ H (.tuple ds)) (h0 : I 0 Γ)
    (turn : ∀ (Hm : Hp) (n : Nat) (d : PyData) (Γ' : List Sl) (σ' : L2.St) (H' : Hp), ds[n]? = some d → I n Γ' → Rel K H0 Hm H' σ' (Γ'.set i (.t d)) → t { D with nx := At K H0 Hm I (n + 1), ct := At K H0 Hm I (n + 1), bk := D.nx } σ' H')
    (k : ∀ Γ' σ' H', I ds.length Γ' → Rel K H0 Hk H' σ' Γ' → D.nx σ' H') (hbk : True := trivial) :
    tFor (iTup K te) (gName i) t D σ H :=
  hs H (.refl _) _ fun v H2 e2 h2 => by
    obtain ⟨a, xs, rfl, tu, q⟩ := h2.t
    have R2 := R.same e2
    refine ⟨a, rfl, ⟨xs, tu.sq⟩, for_tup (K := K) (a := a) (xs := xs) (At K H0 H2 I) ⟨Γ, h0, R2.rebase⟩ (fun n σ' H' _ ⟨Γ', _, R'⟩ => (tu.keep R'.keep).sq) (fun n x σ' H' hn ⟨Γ', hi, R'⟩ => ?_) fun σ' H' ⟨Γ', hi, R'⟩ => ?_⟩
    · obtain ⟨d, hd, td⟩ := q.get' hn
      exact turn H2 n d Γ' _ H' hd hi (R'.set_t i (td.k R'.keep))
    · rw [q.length] at hi
      exact k Γ' σ' H' hi (R2.back R')
/-- for a name in a tuple: the slots ahead of turn n are G n -/
theorem s_for {α : Type} {xs : List α} {enc : α → PyData} (R : Rel K H0 Hk H σ Γ) (G : Nat → List Sl) (hs : ET K te σ H (.tuple (xs.map enc))) (h0 : Γ = G 0)
    (turn : ∀ (Hm : Hp) (n : Nat) (x : α) (σ' : L2.St) (H' : Hp), xs[n]? = some x → Rel K H0 Hm H' σ' ((G n).set i (.t (enc x))) → t { D with nx := fun σ2 H2 => Rel K H0 Hm H2 σ2 (G (n + 1)), ct := fun σ2 H2 => Rel K H0 Hm H2 σ2 (G (n + 1)), bk := D.nx } σ' H')
    (k : ∀ σ' H', Rel K H0 Hk H' σ' (G xs.length) → D.nx σ' H') : tFor (iTup K te) (gName i) t D σ H :=
  hs H (.refl _) _ fun v H2 e2 h2 => by
    obtain ⟨a, vs, rfl, tu, q⟩ := h2.t
    have R2 := R.same e2
    refine ⟨a, rfl, ⟨vs, tu.sq⟩, for_tup (K := K) (a := a) (xs := vs) (fun n σ2 H3 => Rel K H0 H2 H3 σ2 (G n)) (h0 ▸ R2.rebase) (fun n σ' H' _ R' => (tu.keep R'.keep).sq) (fun n x σ' H' hn R' => ?_) fun σ' H' R' => ?_⟩
    · obtain ⟨d, hd, td⟩ := q.get' hn
      obtain ⟨x, hx, rfl⟩ := map_get hd
      exact turn H2 n x _ H' hx (R'.set_t i (td.k R'.keep))
    · rw [q.length, List.length_map] at R'
      exact k σ' H' (R2.back R')
theorem At.mk {I : Nat → List Sl → Prop} {n : Nat} (R : Rel K H0 Hk H σ Γ) (h : I n Γ) : At K H0 Hk I n σ H := ⟨Γ, h, R⟩
end
/-! ### defs of data -/
section
variable {P : Program} {w : World} {K : PySem.W.Frag} {mg : Str → Option Value} {base : Heap}
theorem ars_len {K : PySem.W.Frag} {H : Hp} {vs : List V} {as : List Ar} (h : Ars K H vs as) : vs.length = as.length := Paired.length h
theorem cal_t (T : Tx K mg base) (i j : Nat) {x : Str} {st : Stmt} {N ps : List Str} {k : Nat} {Pr : List Ar → PyData → Prop} (h : CW.fn[i]? = some ⟨(x, none), x, x, defArgs st, defBody st, defScope st, [], []⟩) (hg : CW.fa[j]? = some (.glo x)) (S : FnScope N ps (defScope st))
    (hb : ∀ (kV doc pm : Value) (an : Option Addr) (cdv ct : Value) (us : List Value), us.length = ps.length → bindArgs (PySem.W.fnOf x x (defArgs st) (defBody st) (defScope st) .none kV doc pm an cdv ct) ⟨us, []⟩ = pure (ps.zip us))
    (hl : ∀ as d, Pr as d → as.length = ps.length) (hlN : ps.length ≤ N.length)
    (hbody : ∀ (cdv : Value) (A : Around) (outer : List Env) (s : Shared) (H : Hp) (Q : VK) (E : XK), Room k (A.deeper (envOfC x (defScope st) s.heap.objs.size (He.ga K x) cdv)) →
      ∃ t, PSs (cxOf CX0 P w K mg base N x (defScope st) (He.ga K x) cdv A outer s H E).nox (defBody st) t ∧ ∀ as d, Pr as d → (∀ v H', Same H H' → Td K H' v d → Q v H') → ∀ σ, Rel K H H H σ (slots N as) → t { nx := fun _ H' => Q .non H', rt := Q } σ H) : Cal P w K mg base (k + 1) x (spT K Pr) [] := by
  refine cal_of T i j h hg S hb (fun vs H Q E ⟨as, d, h1, h2, _⟩ => by rw [ars_len h1, hl as d h2]) fun cdv A outer s H vs Q E hr ⟨as, d, h1, h2, h3⟩ => ?_
  obtain ⟨t, q1, q2⟩ := hbody cdv A outer s H Q E hr
  exact ⟨t, q1, q2 as d h2 h3 _ (rel_start h1 (by rw [hl as d h2]; exact hlN))⟩
theorem cal_l (T : Tx K mg base) (i j : Nat) {x : Str} {st : Stmt} {N ps : List Str} {k : Nat} {Pr : List Ar → List PyData → Prop} (h : CW.fn[i]? = some ⟨(x, none), x, x, defArgs st, defBody st, defScope st, [], []⟩) (hg : CW.fa[j]? = some (.glo x)) (S : FnScope N ps (defScope st))
    (hb : ∀ (kV doc pm : Value) (an : Option Addr) (cdv ct : Value) (us : List Value), us.length = ps.length → bindArgs (PySem.W.fnOf x x (defArgs st) (defBody st) (defScope st) .none kV doc pm an cdv ct) ⟨us, []⟩ = pure (ps.zip us))
    (hl : ∀ as d, Pr as d → as.length = ps.length) (hlN : ps.length ≤ N.length)
    (hbody : ∀ (cdv : Value) (A : Around) (outer : List Env) (s : Shared) (H : Hp) (Q : VK) (E : XK), Room k (A.deeper (envOfC x (defScope st) s.heap.objs.size (He.ga K x) cdv)) →
      ∃ t, PSs (cxOf CX0 P w K mg base N x (defScope st) (He.ga K x) cdv A outer s H E).nox (defBody st) t ∧ ∀ as ds, Pr as ds → (∀ p xs H', H p = none → Same H H' → H' p = some (.lst xs) → TdAll K H' xs ds → Q (.ref p) H') → ∀ σ, Rel K H H H σ (slots N as) → t { nx := fun _ H' => Q .non H', rt := Q } σ H) : Cal P w K mg base (k + 1) x (spL K Pr) [] := by
  refine cal_of T i j h hg S hb (fun vs H Q E ⟨as, d, h1, h2, _⟩ => by rw [ars_len h1, hl as d h2]) fun cdv A outer s H vs Q E hr ⟨as, d, h1, h2, h3⟩ => ?_
  obtain ⟨t, q1, q2⟩ := hbody cdv A outer s H Q E hr
  exact ⟨t, q1, q2 as d h2 h3 _ (rel_start h1 (by rw [hl as d h2]; exact hlN))⟩
end
end CW

set_option maxRecDepth 100000
set_option maxHeartbeats 4000000
/-! What the defs compute, as plain functions. -/
namespace CW
open PySem
abbrev Cl := List Int
abbrev Rs := List Cl
def dC (c : Cl) : PyData := .tuple (c.map .int)
def dR (r : Rs) : PyData := .tuple (r.map dC)
/-- small -/
def Sm (r : Rs) : Prop := r.length ≤ 900 ∧ ∀ c ∈ r, c.length ≤ 900
def litKey (l : Int) : PyData := if l > 0 then .tuple [.int l, .int 1] else .tuple [.int (-l), .int 0]
def clKey (c : Cl) : PyData := .tuple (c.map litKey)
def sortL (ls : List Int) : List Int := ls.mergeSort (PySem.W.dataLe false litKey)
/-- each once, the first stands -/
def dedup {α : Type} [BEq α] : List α → List α → List α
  | acc, [] => acc
  | acc, x :: xs => dedup (if acc.contains x then acc else acc ++ [x]) xs
def residueOf (cs : Rs) : Rs := (dedup [] cs).mergeSort (PySem.W.dataLe false clKey)
def undC (l : Int) (c : Cl) : Option Cl := if c.contains l then none else some (if c.contains (-l) then c.filter (fun z => z != -l) else c)
def under (R : Rs) (l : Int) : Rs := residueOf (R.filterMap (undC l))
def PresidueOf (as : List Ar) (d : PyData) : Prop := ∃ cs : Rs, as = [.l (cs.map dC)] ∧ Sm cs ∧ d = dR (residueOf cs)
def Punder (as : List Ar) (d : PyData) : Prop := ∃ (R : Rs) (l : Int), as = [.t (dR R), .t (.int l)] ∧ Sm R ∧ d = dR (under R l)
end CW

set_option maxRecDepth 100000
set_option maxHeartbeats 4000000
/-! Keys that are tuples, the empty one among them: list.sort's other two kinds. -/
namespace CW
open PySem PySem.W PySem.SeqAt PySem.Calls PyProof.Rows
section
variable {prog : Program} {w : World} {A : Around} {s : Shared} {E : Value → Shared → Prop}
theorem call_tup_lt {Q : Value → Shared → Prop} {l b : Addr} {items items2 : Array Value} {e r : Nat → Bool} (hl : s.heap.IsTuple l items) (hb : s.heap.IsTuple b items2)
    (he : ∀ j (h1 : j < items.size) (h2 : j < items2.size), EqAt A.in1 s items[j] items2[j] (e j)) (hr : ∀ j (h1 : j < items.size) (h2 : j < items2.size), e j = false → RcLt A.in1 s items[j] items2[j] (r j))
    (h : Q (.bool (firstLt e r (decide (items.size < items2.size)) (List.range (min items.size items2.size)))) s) : wpAny (model prog w) A (call (.builtin "tuple.__lt__") [.ref l, .ref b]) Q E s := by
  obtain ⟨⟨cls, dd, data, sl⟩, ho, hc, n, hd⟩ := id hl
  obtain ⟨⟨cls2, dd2, data2, sl2⟩, ho2, hc2, n2, hd2⟩ := id hb
  simp only at hc hd hc2 hd2
  subst hc hd hc2 hd2
  exact call_meets F.slot_tuple_lt ⟨_, ho, rfl⟩ F.entry_tuple_lt (F.args_tuple_lt_2 _ _) (tuple_ltAt l b items items2 n n2 dd dd2 sl sl2 e r) ⟨ho, ho2, he, hr, h⟩
theorem oneLt_tup {xs ys : List PyData} {a b : Value} {as bs : List Addr} {Q : Bool → Shared → Prop} (ra : Reads s.heap a (.tuple xs) as) (rb : Reads s.heap b (.tuple ys) bs) (hal : alikeAll xs ys = true)
    (hu : A.units + min (PyData.tuple xs).depth (PyData.tuple ys).depth < cLine) (hq : Q (dataLt (.tuple xs) (.tuple ys)) s) : wpAny (model prog w) A (oneLt' true a b) Q E s := by
  cases ra with
  | @tuple l o vs n _ _ h1 h2 h3 h4 =>
    cases rb with
    | @tuple l' o' vs' n' _ _ k1 k2 k3 k4 =>
      have n1 : vs.size = xs.length := by simpa using ReadsAll.length _ _ _ h4
      have n2 : vs'.size = ys.length := by simpa using ReadsAll.length _ _ _ k4
      rw [dataLt_tuple, ← firstLt_toks xs ys hal, ← n1, ← n2] at hq
      rw [oneLt'_eq]
      simp only [if_true]
      have hr := SeqAt.room_in hu
      refine wpAny_bind (wpAny_cRoomFor (by omega) ?_)
      refine wpAny_bind (wpAny_callSpecialIfBound?_slot (T := "tuple") ⟨_, h1, h2⟩ F.slot_tuple_lt (call_tup_lt (e := pairEq xs ys) (r := fun j => dataLt (xs.getD j .none) (ys.getD j .none)) ⟨_, h1, h2, _, h3⟩ ⟨_, k1, k2, _, k3⟩ (fun j j1 j2 => ?_) (fun j j1 j2 hj => ?_) ?_))
      · have := eqAt_alikeAll xs ys A.in1 s vs.toList vs'.toList _ _ h4 k4 hal hr j (by simpa using j1) (by simpa using j2)
        simpa using this
      · have := rcLt_alikeAll xs ys A.in1 s vs.toList vs'.toList _ _ h4 k4 hal hr j (by simpa using j1) (by simpa using j2) hj
        simpa using this
      · exact wpAny_truthy_bool hq
/-- the first item of the tuple that stands at v -/
def firstAt (h : Heap) : Value → Option Value
  | .ref a => match h.get? a with
    | some ⟨_, _, .seq its _, _⟩ => its[0]?
    | _ => none
  | _ => none
theorem mapM_at {M : Model} {α β : Type} {f : α → Sem β} {g : α → β} : ∀ (l : List α) {Q : List β → Shared → Prop}, (∀ v ∈ l, ∀ (Q' : β → Shared → Prop), Q' (g v) s → wpAny M A (f v) Q' E s) → Q (l.map g) s → wpAny M A (l.mapM f) Q E s
  | [], _, _, h => by rw [List.mapM_nil]; exact wpAny_pure h
  | x :: l, Q, hf, h => by
    rw [List.mapM_cons]
    exact wpAny_bind (hf x (.head _) _ (wpAny_bind (mapM_at l (Q := fun bs s' => wpAny M A (pure (g x :: bs)) Q E s') (fun v hv => hf v (.tail _ hv)) (wpAny_pure h))))
theorem reads_tup {h : Heap} {v : Value} {xs : List PyData} {as : List Addr} (r : Reads h v (.tuple xs) as) : ∃ a o vs n, v = .ref a ∧ h.get? a = some o ∧ o.cls = .type "tuple" ∧ o.data = .seq vs n ∧ ReadsAll h vs.toList xs as := by
  cases r with
  | @tuple a o vs n _ _ h1 h2 h3 h4 => exact ⟨a, o, vs, n, rfl, h1, h2, h3, h4⟩
theorem first_run {M : Model} {v : Value} {xs : List PyData} {as : List Addr} {Q : Option Value → Shared → Prop} (r : Reads s.heap v (.tuple xs) as) (h : Q (firstAt s.heap v) s) : wpAny M A (firstOfTuple' v) Q E s := by
  obtain ⟨a, o, vs, n, rfl, h1, h2, h3, _⟩ := reads_tup r
  obtain ⟨c, dd, dt, sl⟩ := o
  simp only at h2 h3
  subst h2 h3
  rw [kas_first_eq]
  refine wpAny_bind ((show Looks M s.heap (typeOf (Value.ref a)) (Value.type "tuple") from (Looks.ld h1).andThen .now).here ?_)
  rw [if_neg (by simp)]
  refine wpAny_bind (listItems_at h1 rfl (wpAny_pure ?_))
  have e : firstAt s.heap (.ref a) = vs[0]? := by
    show (match s.heap.get? a with
      | some ⟨_, _, .seq its _, _⟩ => its[0]?
      | _ => none) = _
    rw [h1]
  rw [← e]
  exact h
theorem firstAt_empty {v : Value} {as : List Addr} {h : Heap} (r : Reads h v (.tuple []) as) : firstAt h v = none := by
  obtain ⟨a, o, vs, n, rfl, h1, h2, h3, h4⟩ := reads_tup r
  obtain ⟨c, dd, dt, sl⟩ := o
  simp only at h2 h3
  subst h2 h3
  show (match h.get? a with
    | some ⟨_, _, .seq its _, _⟩ => its[0]?
    | _ => none) = _
  rw [h1]
  have e : vs.toList.length = 0 := by simpa using ReadsAll.length _ _ _ h4
  show vs[0]? = none
  rw [Array.getElem?_eq_none]
  simpa using e
def kdE (h : Heap) (vs : List Value) : SortKind := if ((vs.map (firstAt h)).toArray[0]?.bind id).isSome = true then general' else oneType'
theorem kind_empty {M : Model} {vs : List Value} {ds : List PyData} {Q : SortKind → Shared → Prop} (e : EachIs (fun v d => ∃ as, Reads s.heap v d as) vs ds) (ht : ∀ d ∈ ds, ∃ xs, d = .tuple xs) (h0 : PyData.tuple [] ∈ ds) (h1 : Q (kdE s.heap vs) s) : wpAny M A (keyKind' vs.toArray) Q E s := by
  have hv : ∀ v ∈ vs, ∃ xs as, Reads s.heap v (.tuple xs) as := fun v hm => by
    obtain ⟨d, hd, as, r⟩ := e.left v hm
    obtain ⟨xs, rfl⟩ := ht d hd
    exact ⟨xs, as, r⟩
  obtain ⟨v0, hm0, as0, r0⟩ : ∃ v ∈ vs, ∃ as, Reads s.heap v (.tuple []) as := by
    have q : ∀ {vs : List Value} {ds : List PyData}, EachIs (fun v d => ∃ as, Reads s.heap v d as) vs ds → PyData.tuple [] ∈ ds → ∃ v ∈ vs, ∃ as, Reads s.heap v (.tuple []) as := by
      intro vs ds e
      induction e with
      | nil => intro h; cases h
      | cons a t ih =>
        intro h
        rcases List.mem_cons.mp h with z | z
        · rw [z]
          exact ⟨_, List.mem_cons_self, a⟩
        · obtain ⟨v, hm, q⟩ := ih z
          exact ⟨v, List.mem_cons_of_mem _ hm, q⟩
    exact q e h0
  rw [kat_kind_eq, List.mapM_toArray, map_eq_pure_bind]
  refine wpAny_bind (wpAny_bind (mapM_at (g := firstAt s.heap) _ (fun v hm Q' hq => by
    obtain ⟨xs, as, r⟩ := hv v hm
    exact first_run r hq) (wpAny_pure ?_)))
  have hall : ((vs.map (firstAt s.heap)).toArray.all fun x => x.isSome) = false := by
    rw [Bool.eq_false_iff]
    intro z
    simp only [List.all_toArray, List.all_map, List.all_eq_true] at z
    have := z v0 hm0
    simp [firstAt_empty r0] at this
  rw [hall, if_neg Bool.false_ne_true]
  by_cases hz : ((vs.map (firstAt s.heap)).toArray[0]?.bind id).isSome = true
  · rw [if_pos hz]
    refine wpAny_pure ?_
    unfold kdE at h1
    rw [if_pos hz] at h1
    exact h1
  · have h2 : Q oneType' s := by
      unfold kdE at h1
      rw [if_neg hz] at h1
      exact h1
    rw [if_neg hz]
    rw [oneTypeOnly'_eq, List.mapM_toArray, map_eq_pure_bind]
    refine wpAny_bind (wpAny_bind (wpAny_bind (kas_mapM (r := Value.type "tuple") _ (fun v hm Q' hq => ?_) (wpAny_pure ?_))))
    · obtain ⟨xs, as, r⟩ := hv v hm
      exact (looks_reads r).here hq
    · cases vs with
      | nil => cases hm0
      | cons v r =>
        have ha : ((List.map (fun _ => Value.type "tuple") (v :: r)).toArray.all fun x => x == Value.type "tuple") = true := by
          simp only [List.all_toArray, List.all_map, List.all_eq_true]
          intro x _
          exact beq_self_eq_true _
        have h3 : (List.map (fun _ => Value.type "tuple") (v :: r)).toArray[0]? = some (Value.type "tuple") := by simp
        simp only [h3, ha, if_true]
        refine wpAny_pure ?_
        first
          | exact wpAny_pure h2
          | (simp; exact wpAny_pure h2)
theorem sorts_tups {vs : List Value} {ds : List PyData} (e : EachIs (fun v d => ∃ as, Reads s.heap v d as) vs ds) (hal : AllAlike ds) (ht : ∀ d ∈ ds, ∃ xs, d = .tuple xs) (hu : ∀ d, d ∈ ds → A.units + d.depth < cLine) : SortsAt prog w A s (dataKind s.heap ds) vs := by
  by_cases h0 : PyData.tuple [] ∈ ds
  · have room : ∀ {d d' : PyData}, d ∈ ds → A.units + min d.depth d'.depth < cLine := fun {d d'} hd => Nat.lt_of_le_of_lt (Nat.add_le_add_left (Nat.min_le_left _ _) _) (hu d hd)
    have key : ∀ v, v ∈ vs → ∃ a, (dataKind s.heap ds).keyOf v = some a := fun v hv => by
      obtain ⟨d, hd, as, r⟩ := e.left v hv
      exact ⟨_, dataKind_some hal hd r⟩
    have lt1 : H.LtAt prog w A s (dataKind s.heap ds) general' := fun E x y a b Q ha hb hq => by
      obtain ⟨d, as, hd, ra, rfl⟩ := dataKind_inv ha
      obtain ⟨d', as', hd', rb, rfl⟩ := dataKind_inv hb
      show wpAny (model prog w) A (oneLt' false x y) Q E s
      exact oneLt_alike (fun z => by cases z) ra rb (hal d hd d' hd') (by obtain ⟨xs, rfl⟩ := ht d hd; simp) (room hd) hq
    have lt2 : H.LtAt prog w A s (dataKind s.heap ds) oneType' := fun E x y a b Q ha hb hq => by
      obtain ⟨d, as, hd, ra, rfl⟩ := dataKind_inv ha
      obtain ⟨d', as', hd', rb, rfl⟩ := dataKind_inv hb
      obtain ⟨xs, rfl⟩ := ht d hd
      obtain ⟨ys, rfl⟩ := ht d' hd'
      rw [keyLt'_oneType]
      exact oneLt_tup ra rb (by simpa [alike] using hal _ hd _ hd') (room hd) hq
    refine ⟨key, kdE s.heap vs, ?_, fun h2 E Q hq => kind_empty e ht h0 hq⟩
    unfold kdE
    split
    · exact lt1
    · exact lt2
  · refine SortsAt.data e hal (.inl fun d hd => ?_) hu
    obtain ⟨xs, rfl⟩ := ht d hd
    cases xs with
    | nil => exact absurd hd h0
    | cons x r => exact ⟨x, r, rfl⟩
end
end CW

set_option maxRecDepth 100000
set_option maxHeartbeats 4000000
/-! sorted(x, key=f), f a def of the text. -/
namespace CW
open PySem PySem.Spec PyProof.Rows L2
section
variable {X : Cx} {pins : List (Addr × Obj)} {σ : L2.St} {H : Hp} {s : Shared}
/-- two untracked objects have changed; the first is a list from now on -/
theorem inv_two {a b : Addr} {h' : Heap} {t' : Nat} {xs : List V} {its : Array Value} {n : Nat} (I : Inv X pins σ H s) (fa : FpOk X pins H a) (fb : FpOk X pins H b)
    (k : ∀ c o, c ≠ a → c ≠ b → s.heap.get? c = some o → h'.get? c = some o) (ha : h'.get? a = some (seqObj "list" its n)) (rv : Vals xs its.toList) (hz : xs.length ≤ sizeLine) :
    Inv X pins σ (upd H a (.lst xs)) { s with heap := h', toks := t' } := by
  obtain ⟨a0, a1, a2, a3, a4, a5⟩ := fa
  obtain ⟨b0, b1, b2, b3, b4, b5⟩ := fb
  have nch : ∀ {c : Addr}, c ∉ [a, b] → c ≠ a ∧ c ≠ b := fun {c} h => ⟨fun e => h (by rw [e]; exact List.mem_cons_self), fun e => h (by rw [e]; exact List.mem_cons_of_mem _ List.mem_cons_self)⟩
  refine I.step (g' := s.gens) (d' := s.drawn) (ch := [a, b]) (fun c hc => ?_) (fun c o _ _ hc e _ => k c o (nch hc).1 (nch hc).2 e) (fun c o _ _ hc e _ => ⟨o.slots, k c o (nch hc).1 (nch hc).2 e⟩) (fun c o hc _ n => by rw [upd_ne (nch hc).1]; exact n)
    (fun c o hc e => ⟨o, k c o (nch hc).1 (nch hc).2 e⟩) (fun c ys e => by rw [upd_ne (ne_of_none e a0)]; exact e) (fun c o u e => by rw [upd_ne (ne_of_none e a0)]; exact e) (fun c ps e => ⟨#[], by rw [upd_ne (ne_of_none e a0), e]; simp⟩) (fun m hm => ?_) (fun c u e => ?_) I.bare
  · rcases List.mem_cons.mp hc with rfl | hc
    · exact ⟨a3, a1, a4, a5⟩
    · obtain rfl := List.mem_singleton.mp hc
      exact ⟨b3, b1, b4, b5⟩
  · obtain ⟨o, es, ep, ho, r⟩ := hm
    exact ⟨o, es, ep, k _ o (Ne.symm a1) (Ne.symm b1) ho, r⟩
  · by_cases hc : c = a
    · subst hc
      rw [upd_same] at e
      rw [← Option.some.inj e]
      exact ⟨hz, its.toList, n, rv, by rw [Array.toArray_toList]; exact ha⟩
    · rw [upd_ne hc] at e
      refine (I.hok c u e).stay (fun d v hd q => k d v ?_ ?_ q) (fun d z => by rw [upd_ne (ne_of_none z a0)]; exact z) fun d ys z => by rw [upd_ne (ne_of_none z a0)]; exact z
      · rcases hd with rfl | hd
        · exact hc
        · exact ne_of_none hd a0
      · rcases hd with rfl | hd
        · exact ne_of_none e b0
        · exact ne_of_none hd b0
theorem FpOk.h {H' : Hp} {b : Addr} (f : FpOk X pins H b) (h : H' b = none) : FpOk X pins H' b := ⟨h, f.2⟩
theorem td_reads (I : Inv X pins σ H s) {v : V} {d : PyData} {u : Value} (h : Td X.K H v d) (r : RelV v u) : ∃ as, Reads s.heap u d as := Dp.reads I d v u (Td.dp _ _ h) r
theorem tds_reads (I : Inv X pins σ H s) : ∀ {ds : List PyData} {vs : List V} {us : List Value}, TdAll X.K H vs ds → Vals vs us → PySem.W.EachIs (fun v d => ∃ as, Reads s.heap v d as) us ds
  | [], _, _, h, r => by cases h; cases r; exact .nil
  | d :: ds, _, _, h, r => by
    cases h with
    | cons a b =>
      cases r with
      | cons c e => exact .cons (td_reads I a c) (tds_reads I b e)
theorem each_of_td : ∀ {α : Type} {enc : α → PyData} {K : PySem.W.Frag} {H : Hp} {xs : List α} {vs : List V} {us : List Value}, TdAll K H vs (xs.map enc) → Vals vs us → PySem.W.EachIs (fun v x => ∃ y, RelV y v ∧ Td K H y (enc x)) us xs
  | _, _, _, _, [], _, _, h, r => by cases h; cases r; exact .nil
  | _, enc, K, H, x :: xs, _, _, h, r => by
    have h' : TdAll K H _ (enc x :: xs.map enc) := h
    cases h' with
    | cons a b =>
      cases r with
      | cons c e => exact .cons ⟨_, c, a⟩ (each_of_td b e)
theorem td_of_each : ∀ {α : Type} {enc : α → PyData} {K : PySem.W.Frag} {H : Hp} {xs : List α} {us : List Value}, PySem.W.EachIs (fun v x => ∃ y, RelV y v ∧ Td K H y (enc x)) us xs → ∃ vs, Vals vs us ∧ TdAll K H vs (xs.map enc)
  | _, _, _, _, [], _, h => by cases h; exact ⟨[], .nil, .nil⟩
  | _, enc, _, _, x :: xs, _, h => by
    cases h with
    | cons a b =>
      obtain ⟨y, h1, h2⟩ := a
      obtain ⟨vs, h3, h4⟩ := td_of_each b
      exact ⟨y :: vs, .cons h1 h3, .cons h2 h4⟩
end
section
variable {α : Type} {enc key : α → PyData} {X : Cx} {pins : List (Addr × Obj)} {σ : L2.St} {H : Hp} {s : Shared} {E : Value → Shared → Prop} {f : Addr} {fd : FuncData} {ps : List Str} {k : Nat} {sp : Sp} {xs : List α}
theorem sort_tree {a : Addr} {vs : List Value} {ys : List V} {n : Nat} {P : PySem.Fin → Shared → Prop} (F : FnOk X.prog X.w X.K X.mg X.base C8.CX0 k f fd ps sp) (hr : Room (k + 2) X.A) (hb : Binds X.K fd ps [])
    (I : Inv X pins σ H s) (ho : s.heap.get? a = some (seqObj "list" vs.toArray n)) (fa : FpOk X pins H a) (rv : Vals ys vs) (td : TdAll X.K H ys (xs.map enc)) (hz : xs.length ≤ 100000)
    (hal : PySem.W.AllAlike (xs.map key)) (hsk : (∀ x ∈ xs, ∃ ds, key x = .tuple ds)) (hd : ∀ x ∈ xs, (key x).depth ≤ 8)
    (turn : ∀ (i : Nat) (x : α) (y : V) (H' : Hp), xs[i]? = some x → Same H H' → Td X.K H' y (enc x) → ∀ Q : VK, (∀ v H'', Same H' H'' → Td X.K H'' v (key x) → Q v H'') → sp [y] H' Q E0)
    (h : ∀ H' out s', Inv X pins σ (upd H' a (.lst out)) s' → Same H H' → H' a = none → TdAll X.K H' out ((xs.mergeSort (PySem.W.dataLe false key)).map enc) → P (.done (.ret .none)) s') :
    wpAny (model X.prog X.w) X.A.in1.in1 (PyProof.Rows.ksk_tree a (.ref f) false) P E s := by
  have hlv : vs.length = xs.length := by rw [← rv.length, td.length, List.length_map]
  have hZ : vs.length ≤ sizeLine := by rw [hlv]; exact Nat.le_trans hz (by decide)
  obtain ⟨e1, ho1⟩ : ∃ e1, (s.heap.update a (Obj.mapSeq fun _ => (#[] : Array Value))).get? a = some (seqObj "list" #[] e1) := ⟨_, get?_update_seq ho fun _ => #[]⟩
  obtain ⟨fa0, fa1, fa2, fa3, fa4, fa5⟩ := id fa
  unfold PyProof.Rows.ksk_tree
  refine wpAny_bind (listItems_at ho rfl ?_)
  refine wpAny_bind (listUpdate_at ho rfl ?_ (by rw [List.size_toArray]; exact hZ) (Nat.zero_le _))
  refine wpAny_bind (seqEpoch_at ho1 rfl ?_)
  refine wpAny_bind (wpAny_newTuple ?_ (by show vs.length ≤ _; exact hZ))
  refine wpAny_bind (wpAny_newList ?_ (Nat.zero_le _))
  refine wpAny_holding ?_
  generalize hh2 : ((s.heap.update a (Obj.mapSeq fun _ => (#[] : Array Value))).push (seqObj "tuple" vs.toArray 0)) = h2
  have sz2 : h2.objs.size = s.heap.objs.size + 1 := by rw [← hh2, size_push', Heap.size_update]
  have kp : ∀ b o, b ≠ a → s.heap.get? b = some o → (h2.push (seqObj "list" #[] 0)).get? b = some o := fun b o hb e => by
    rw [← hh2]
    exact Heap.get?_push_of_some _ (Heap.get?_push_of_some _ ((Heap.get?_update_ne _ _ _ _ hb).trans e))
  have na : (h2.push (seqObj "list" #[] 0)).get? a = some (seqObj "list" #[] e1) := by
    rw [← hh2]
    exact Heap.get?_push_of_some _ (Heap.get?_push_of_some _ ho1)
  generalize hkS : h2.objs.size = kS
  have nS : (h2.push (seqObj "list" #[] 0)).get? kS = some (seqObj "list" #[] 0) := by
    rw [← hkS]
    exact Heap.get?_push_size _ rfl
  have hle : s.heap.objs.size ≤ kS := by rw [← hkS, sz2]; exact Nat.le_succ _
  have hkn : H kS = none := I.hok.fresh hle
  have fS : FpOk X pins H kS := I.fpOk hle hkn
  obtain ⟨fS0, fS1, fS2, fS3, fS4, fS5⟩ := id fS
  have hka : kS ≠ a := fun e => absurd (Nat.lt_of_lt_of_le (Heap.lt_size ho) hle) (by rw [e]; exact Nat.lt_irrefl _)
  have I2 : Inv X pins σ H { s with heap := h2.push (seqObj "list" #[] 0), toks := s.toks } := I.turned kp fa0 fa1 fa3 fa4 fa5
  have pinned : ∀ {s' : Shared} {H' : Hp} {kA : Array Value} {e : Nat}, Inv X pins σ H' s' → H' a = none → H' kS = none → s'.heap.get? a = some (seqObj "list" #[] e1) → s'.heap.get? kS = some (seqObj "list" kA e) →
      Inv X (pins ++ [(a, seqObj "list" #[] e1), (kS, seqObj "list" kA e)]) σ H' s' := fun {s' H' kA e} I' ha' hs' ga gs => I'.pins_of fun p hp => by
    rcases List.mem_append.mp hp with hp | hp
    · exact I'.pin p (List.mem_append_right _ hp)
    · rcases List.mem_cons.mp hp with rfl | hp
      · exact ⟨ga, ha', fa1, fa2, fun v z => by cases z⟩
      · obtain rfl := List.mem_singleton.mp hp
        exact ⟨gs, hs', fS1, fS2, fun v z => by cases z⟩
  have unpin : ∀ {s' : Shared} {H' : Hp} {kA : Array Value} {e : Nat}, Inv X (pins ++ [(a, seqObj "list" #[] e1), (kS, seqObj "list" kA e)]) σ H' s' →
      Inv X pins σ H' s' ∧ H' a = none ∧ H' kS = none ∧ s'.heap.get? a = some (seqObj "list" #[] e1) ∧ s'.heap.get? kS = some (seqObj "list" kA e) := fun {s' H' kA e} I' => by
    refine ⟨I'.pins_of fun p hp => I'.pin p (List.mem_append_right _ (List.mem_append_left _ hp)), ?_⟩
    have q1 := I'.pin (a, seqObj "list" #[] e1) (List.mem_append_right _ (List.mem_append_right _ List.mem_cons_self))
    have q2 := I'.pin (kS, seqObj "list" kA e) (List.mem_append_right _ (List.mem_append_right _ (List.mem_cons_of_mem _ List.mem_cons_self)))
    exact ⟨q1.2.1, q2.2.1, q1.1, q2.1⟩
  show wpAny _ _ (PyProof.Rows.ksk_rest a (.ref f) false vs.toArray e1 (.ref kS)) _ _ { s with heap := h2.push (seqObj "list" #[] 0) }
  unfold PyProof.Rows.ksk_rest
  refine wpAny_bind (wpAny_rule ?_)
  first
    | rw [List.forIn_toArray]
    | (rw [← Array.forIn_toList]; simp only [List.toList_toArray])
    | rw [← Array.forIn_toList]
  refine wpAny_bind (PyProof.Rows.ksk_fold (fun i s' => ∃ H' kA e ks, Inv X (pins ++ [(a, seqObj "list" #[] e1), (kS, seqObj "list" kA e)]) σ H' s' ∧ Same H H' ∧ Vals ks kA.toList ∧ TdAll X.K H' ks ((xs.take i).map key)) vs 0 _
    ⟨H, #[], 0, [], pinned I2 fa0 hkn na nS, .refl H, .nil, .nil⟩ ?step ?done)
  case step =>
    rintro j x s' hx ⟨H', kA, e, ks, I', sm, rk, tk⟩
    simp only [Nat.zero_add] at tk ⊢
    have hj : j < xs.length := by rw [← hlv]; exact (List.getElem?_eq_some_iff.mp hx).1
    have hxj : xs[j]? = some xs[j] := List.getElem?_eq_getElem hj
    obtain ⟨y, hy, hty⟩ := td.get (i := j) (d := enc xs[j]) (by rw [List.getElem?_map, hxj]; rfl)
    obtain ⟨u, hu, ru⟩ := rv.get hy
    rw [hx] at hu
    obtain rfl := Option.some.inj hu
    have hsp := turn j xs[j] y H' hxj sm (hty.same sm) (fun v H'' => Same H' H'' ∧ Td X.K H'' v (key xs[j])) fun v H'' a b => ⟨a, b⟩
    have hl : ([x] : List Value).length = ps.length := by
      have q := F.len _ _ _ _ hsp
      rw [← q]
      rfl
    have hbb := hb s' [x] I'.kIn (by rw [List.append_nil]; exact hl)
    rw [List.append_nil] at hbb
    refine wpAny_bind (wpAny_attempt (wpAny_call (codeAny_mono (F.run X.A.in1.in1 X.stack s' H' ⟨[x], []⟩ [x] [y] _ E0 hr.in1.in1 I'.env0.in1.in1 hbb (.cons ru .nil) hsp) fun r s2 hq => ?_)))
    cases r with
    | error e => exact False.elim hq
    | ok fl =>
      cases fl with
      | next => exact False.elim hq
      | brk => exact False.elim hq
      | cont => exact False.elim hq
      | ret u2 =>
        obtain ⟨v, H2, I3, rv2, sm2, tv⟩ := I'.after hq
        obtain ⟨I4, q1, q2, q3, q4⟩ := unpin I3
        have hzk : kA.size ≤ xs.length := by
          have h1 : ks.length = kA.size := by simpa using rk.length
          have h2 : ks.length = min j xs.length := by simpa using tk.length
          omega
        try dsimp only
        refine wpAny_bind (listUpdate_at q4 rfl ?_ (Nat.le_trans hzk (Nat.le_trans hz (by decide))) (Nat.le_trans (Nat.le_of_eq (Array.size_push ..)) (Nat.succ_le_succ (Nat.le_trans hzk (Nat.le_trans hz (by decide))))))
        obtain ⟨c2, hc2⟩ : ∃ c2, (s2.heap.update kS (Obj.mapSeq (·.push u2))).get? kS = some (seqObj "list" (kA.push u2) c2) := ⟨_, get?_update_seq q4 (·.push u2)⟩
        have I5 : Inv X pins σ H2 { s2 with heap := s2.heap.update kS (Obj.mapSeq (·.push u2)), toks := s2.toks } :=
          I4.turned (fun b o hb e => (Heap.get?_update_ne _ _ _ _ hb).trans e) q2 fS1 fS3 fS4 fS5
        refine wpAny_pure ⟨rfl, H2, kA.push u2, c2, ks ++ [v], pinned I5 q1 q2 ((Heap.get?_update_ne _ _ _ _ hka.symm).trans q3) hc2, sm.trans sm2, ?_, ?_⟩
        · have ea : (kA.push u2).toList = kA.toList ++ [u2] := by simp
          rw [ea]
          exact rk.append (.cons rv2 .nil)
        · have ek : (xs.take (j + 1)).map key = (xs.take j).map key ++ [key xs[j]] := by rw [List.take_add_one, hxj, List.map_append]; rfl
          rw [ek]
          exact (tk.same sm2).snoc tv
  case done =>
    rintro s' ⟨H', kA, e, ks, I', sm, rk, tk⟩
    rw [Nat.zero_add, hlv, List.take_length] at tk
    obtain ⟨I4, q1, q2, q3, q4⟩ := unpin I'
    have hsz : kA.size = vs.length := by
      have h1 : ks.length = kA.size := by simpa using rk.length
      have h2 : ks.length = xs.length := by simpa using tk.length
      omega
    have hk' := tds_reads I4 tk rk
    try dsimp only
    refine wpAny_bind (listItems_at q4 rfl ?_)
    have hgone : (PySem.W.hideAll s'.heap [kS]).get? kS = none := PySem.W.hideAll_none _ List.mem_cons_self
    refine PySem.W.keyH_end (κ := PySem.W.dataKind s'.heap (xs.map key)) (h₁ := PySem.W.hideAll s'.heap [kS]) (fun b o _ e => PySem.W.of_hideAll _ e) hgone q4 q3 hka (sorts_tups hk' hal (fun d hm => ?_) fun d hm => ?_) hsz hZ fun h3 tk3 c k3 n3 => ?_
    · obtain ⟨x, hx, rfl⟩ := List.mem_map.mp hm
      exact hsk x hx
    · obtain ⟨x, hx, rfl⟩ := List.mem_map.mp hm
      have := hd x hx
      have := hr.un
      show X.A.units + 1 + 1 + _ < _
      omega
    · have ko : PySem.W.KeyedOut false (xs.map key) vs (PySem.W.sortVals (PySem.W.dataKind s'.heap (xs.map key)) false kA.toList vs) := ⟨s'.heap, kA.toList, hal, rfl, hk'⟩
      obtain ⟨out, ro, to⟩ := td_of_each (PySem.W.keyedOut_each key ko (each_of_td (td.same sm) rv))
      have hlo : out.length ≤ sizeLine := by
        rw [to.length, List.length_map, (List.mergeSort_perm _ _).length_eq]
        exact Nat.le_trans hz (by decide)
      exact h H' out _ (inv_two I4 ⟨q1, fa.2⟩ ⟨q2, fS.2⟩ (fun c o h1 h2 e => k3 c o h1 (PySem.W.hideAll_get _ e (by simpa using h2))) n3 (by simpa using ro) hlo) sm q1 to
end
end CW

set_option maxRecDepth 100000
set_option maxHeartbeats 4000000
/-! Dicts whose keys are data without lists (tuples of tuples of numbers): {}, in, d[k], d[k] = v, {k: v for ..}, their keys. -/
namespace CW
open PySem PySem.Spec PyProof.Rows L2
mutual
def nk : PyData → NestedKey
  | .none => .none
  | .bool b => .num (if b = true then 1 else 0)
  | .int i => .num i
  | .str x => .text x
  | .tuple ds => .tup (nks ds)
  | .list _ => .none
  | .dict _ => .none
def nks : List PyData → List NestedKey
  | [] => []
  | d :: ds => nk d :: nks ds
end
section
variable {X : Cx} {pins : List (Addr × Obj)} {σ : L2.St} {H : Hp} {s : Shared}
mutual
theorem td_nested (I : Inv X pins σ H s) : ∀ (d : PyData) (v : V) (u : Value), Td X.K H v d → RelV v u → NestedIs s.heap (nk d) u
  | .none, _, _, h, r => by
    cases h
    obtain rfl := (show _ = Value.none from r)
    rw [nk]; exact .none
  | .bool b, _, _, h, r => by
    cases h
    obtain rfl := (show _ = Value.bool b from r)
    rw [nk]; exact .bool rfl
  | .int i, _, _, h, r => by
    cases h
    obtain ⟨t, rfl⟩ := r
    rw [nk]; exact .int _ _
  | .str x, _, _, h, r => by
    cases h
    obtain ⟨t, rfl⟩ := r
    rw [nk]; exact .text _ _
  | .list _, _, _, h, _ => by cases h
  | .dict _, _, _, h, _ => by cases h
  | .tuple ds, _, u, h, r => by
    obtain ⟨a, xs, rfl, t, q⟩ := h.t
    obtain rfl := (show u = Value.ref a from r)
    obtain ⟨its, rv, ⟨o, h1, h2, n, h3⟩, hz⟩ := I.tuple t.sq
    rw [nk]
    exact .tup h1 h2 h3 (tds_nested I ds xs _ q rv)
theorem tds_nested (I : Inv X pins σ H s) : ∀ (ds : List PyData) (vs : List V) (us : List Value), TdAll X.K H vs ds → Vals vs us → NestedAll s.heap (nks ds) us
  | [], _, _, h, r => by cases h; cases r; rw [nks]; exact .nil
  | d :: ds, _, _, h, r => by
    cases h with
    | cons a b =>
      cases r with
      | cons c e =>
        rw [nks]
        exact .cons (td_nested I d _ _ a c) (tds_nested I ds _ _ b e)
end
end

/-! ### what stands at the dict's address -/
abbrev NdE : Type := PyData × Addr × V
abbrev NdX : Type := NestedKey × Addr × Value
def NdRel (e : NdE) (x : NdX) : Prop := x.1 = nk e.1 ∧ x.2.1 = e.2.1 ∧ RelV e.2.2 x.2.2
def NdO (P : Program) (w : World) (a : Addr) (es : List NdE) : HO := .ext fun h => es.length ≤ sizeLine ∧ (a == sysModules) = false ∧ ∃ xs : List NdX, Paired NdRel es xs ∧ ∃ o ds ep, h.get? a = some o ∧ o.ExactDict ∧ o.data = .dict ds ep ∧ ds.toList = xs.map (entryOfKey (nestedKind P w)) ∧ (xs.map (·.1)).Nodup
def NdKeys (K : PySem.W.Frag) (H : Hp) (es : List NdE) : Prop := ∀ e ∈ es, Td K H (.ref e.2.1) e.1 ∧ (nk e.1).depth ≤ 8
def ndGet (es : List NdE) (d : PyData) : Option V := (es.find? fun e => decide (nk e.1 = nk d)).map (·.2.2)
def ndPut (es : List NdE) (d : PyData) (b : Addr) (v : V) : List NdE := if (ndGet es d).isSome then es.map (fun e => if nk e.1 = nk d then (e.1, e.2.1, v) else e) else es ++ [(d, b, v)]
theorem ndPut_len (es : List NdE) (d : PyData) (b : Addr) (v : V) : (ndPut es d b v).length ≤ es.length + 1 := by
  unfold ndPut
  split
  · rw [List.length_map]; omega
  · rw [List.length_append]; exact Nat.le_refl _
theorem nd_mk {P : Program} {w : World} {H : Hp} {h : Heap} {a : Addr} {es : List NdE} (z : es.length ≤ sizeLine) (lo : (a == sysModules) = false) {xs : List NdX} (r : Paired NdRel es xs) {o : Obj} {ds : Array DictEntry} {ep : Nat} (h1 : h.get? a = some o) (h2 : o.ExactDict) (h3 : o.data = .dict ds ep)
    (h4 : ds.toList = xs.map (entryOfKey (nestedKind P w))) (h5 : (xs.map (·.1)).Nodup) : ObjOk P w H h a (NdO P w a es) :=
  ⟨⟨z, lo, xs, r, o, ds, ep, h1, h2, h3, h4, h5⟩, ⟨o, h1⟩, fun g1 g2 ⟨z, lo, xs, r, o, ds, ep, h1, h2⟩ k => ⟨z, lo, xs, r, o, ds, ep, k _ h1, h2⟩⟩
theorem nd_find {d : PyData} : ∀ {es : List NdE} {xs : List NdX}, Paired NdRel es xs → (∀ v, ndGet es d = some v → ∃ p, atKey xs (nk d) = some p ∧ RelV v p.2) ∧ (ndGet es d = none → atKey xs (nk d) = none)
  | _, _, .nil => ⟨fun v e => (by cases e), fun _ => rfl⟩
  | e :: es, x :: xs, .cons r t => by
    obtain ⟨i1, i2⟩ := nd_find (d := d) t
    obtain ⟨r1, r2, r3⟩ := r
    unfold ndGet atKey at *
    rw [List.find?_cons, List.find?_cons, r1]
    by_cases q : nk e.1 = nk d
    · rw [decide_eq_true q]
      refine ⟨fun v ev => ⟨x.2, rfl, ?_⟩, fun z => by cases z⟩
      have ev' : some e.2.2 = some v := ev
      rw [← Option.some.inj ev']
      exact r3
    · rw [decide_eq_false q]
      exact ⟨i1, i2⟩
theorem nd_isSome {d : PyData} {es : List NdE} {xs : List NdX} (r : Paired NdRel es xs) : (atKey xs (nk d)).isSome = (ndGet es d).isSome := by
  obtain ⟨i1, i2⟩ := nd_find (d := d) r
  cases q : ndGet es d with
  | none => rw [i2 q]; rfl
  | some v =>
    obtain ⟨p, e, _⟩ := i1 v q
    rw [e]; rfl
theorem nd_put1 {d : PyData} {v : V} {u : Value} (rv : RelV v u) : ∀ {es : List NdE} {xs : List NdX}, Paired NdRel es xs → Paired NdRel (es.map (fun e => if nk e.1 = nk d then (e.1, e.2.1, v) else e)) (xs.map (putAt (nk d) u))
  | _, _, .nil => .nil
  | e :: es, x :: xs, .cons r t => by
    refine .cons ?_ (nd_put1 rv t)
    obtain ⟨r1, r2, r3⟩ := r
    show NdRel (if nk e.1 = nk d then (e.1, e.2.1, v) else e) (putAt (nk d) u x)
    unfold putAt
    rw [r1]
    by_cases q : nk e.1 = nk d
    · rw [if_pos q, if_pos q]
      exact ⟨rfl, r2, rv⟩
    · rw [if_neg q, if_neg q]
      exact ⟨r1, r2, r3⟩
theorem nd_put2 {d : PyData} {b : Addr} {v : V} {u : Value} (rv : RelV v u) : ∀ {es : List NdE} {xs : List NdX}, Paired NdRel es xs → Paired NdRel (es ++ [(d, b, v)]) (xs ++ [(nk d, b, u)])
  | _, _, .nil => .cons ⟨rfl, rfl, rv⟩ .nil
  | _, _, .cons r t => .cons r (nd_put2 rv t)
theorem nd_put {d : PyData} {b : Addr} {v : V} {u : Value} {es : List NdE} {xs : List NdX} (r : Paired NdRel es xs) (rv : RelV v u) : Paired NdRel (ndPut es d b v) (storedH xs (nk d) b u) := by
  unfold ndPut storedH
  rw [nd_isSome r]
  split
  · exact nd_put1 rv r
  · exact nd_put2 rv r
theorem nd_mem : ∀ {es : List NdE} {xs : List NdX} {x : NdX}, Paired NdRel es xs → x ∈ xs → ∃ e ∈ es, NdRel e x
  | _, _, _, .nil, h => by cases h
  | e :: es, y :: xs, x, .cons r t, h => by
    rcases List.mem_cons.mp h with rfl | h
    · exact ⟨_, List.mem_cons_self, r⟩
    · obtain ⟨e', h1, h2⟩ := nd_mem t h
      exact ⟨e', List.mem_cons_of_mem _ h1, h2⟩
theorem nd_keysPut {K : PySem.W.Frag} {H : Hp} {d : PyData} {b : Addr} {v : V} {es : List NdE} (h : NdKeys K H es) (hb : Td K H (.ref b) d) (hd : (nk d).depth ≤ 8) : NdKeys K H (ndPut es d b v) := by
  intro e he
  unfold ndPut at he
  split at he
  · obtain ⟨e0, h0, rfl⟩ := List.mem_map.mp he
    split
    · exact h e0 h0
    · exact h e0 h0
  · rcases List.mem_append.mp he with h0 | h0
    · exact h e h0
    · obtain rfl := List.mem_singleton.mp h0
      exact ⟨hb, hd⟩
theorem NdKeys.k {K : PySem.W.Frag} {H H' : Hp} {es : List NdE} (k : Keep H H') (h : NdKeys K H es) : NdKeys K H' es := fun e he => ⟨(h e he).1.k k, (h e he).2⟩
theorem nd_nt {P : Program} {w : World} {a : Addr} {es : List NdE} (xs : List V) : NdO P w a es ≠ .tup xs := fun z => by cases z
section
variable {X : Cx} {pins : List (Addr × Obj)} {σ : L2.St} {H : Hp} {s : Shared} {A : Around} {E : Value → Shared → Prop} {a : Addr} {es : List NdE} {d : PyData} {y v : V} {u r : Value}
theorem nd_of (I : Inv X pins σ H s) (h : H a = some (NdO X.prog X.w a es)) (hk : NdKeys X.K H es) : es.length ≤ sizeLine ∧ (a == sysModules) = false ∧ ∃ xs, Paired NdRel es xs ∧ s.heap.DictOfH (nestedKind X.prog X.w) a xs := by
  obtain ⟨⟨z, lo, xs, r, o, ds, ep, h1, h2, h3, h4, h5⟩, _, _⟩ := I.hok a _ h
  refine ⟨z, lo, xs, r, o, ds, ep, h1, h2, h3, h4, fun x hx => ?_, h5⟩
  obtain ⟨e, he, r1, r2, r3⟩ := nd_mem r hx
  obtain ⟨k1, k2⟩ := hk e he
  show (nestedKind X.prog X.w).is s.heap x.1 x.2.1
  rw [r1, r2]
  exact ⟨td_nested I _ _ _ k1 rfl, k2⟩
theorem nd_key (I : Inv X pins σ H s) {b : Addr} (h : Td X.K H (.ref b) d) (hd : (nk d).depth ≤ 8) : (nestedKind X.prog X.w).is s.heap (nk d) b := ⟨td_nested I d _ _ h rfl, hd⟩
theorem nd_room (hu : A.units + 64 < cLine) : (nestedKind X.prog X.w).room A.in1 := by show A.units + 1 + 8 < cLine; omega
theorem nd_room0 (hu : A.units + 64 < cLine) : (nestedKind X.prog X.w).room A := by show A.units + 8 < cLine; omega
/-! ### {} -/
def tNdNew (P : Program) (w : World) : TE := fun _ H Q => ∀ p, H p = none → Q (.ref p) (upd H p (NdO P w p []))
theorem nd_empty {P : Program} {w : World} {H : Hp} (h : Heap) (hb : sysModules < h.objs.size) : ObjOk P w H (h.push { cls := .type "dict", data := .dict #[] }) h.objs.size (NdO P w h.objs.size []) :=
  nd_mk (Nat.zero_le _) (beq_eq_false_iff_ne.mpr (Ne.symm (Nat.ne_of_lt hb))) .nil (Heap.get?_push_size _ rfl) ⟨rfl, rfl, rfl⟩ rfl rfl List.nodup_nil
theorem pe_ndnew {pos : Pos} : PE X (.Dict [] [] pos) (tNdNew X.prog X.w) := ⟨fun pins s σ H Q I h =>
  wpAny_Dict_empty ⟨.ref s.heap.objs.size, _, I.laid (a := s.heap.objs.size) (o := NdO X.prog X.w s.heap.objs.size []) (t' := s.toks) (fun _ _ q => Heap.get?_push_of_some _ q) (Nat.le_refl _) (nd_empty s.heap I.big), rfl, h _ (I.hok.fresh (Nat.le_refl _))⟩⟩
/-! ### k in d, d[k], d[k] = v -/
def tNdIn (K : PySem.W.Frag) (P : Program) (w : World) (ty td : TE) : TE := fun σ H Q => ty σ H fun y H1 => td σ H1 fun x H2 => ∃ a es b d, x = .ref a ∧ y = .ref b ∧ H2 a = some (NdO P w a es) ∧ NdKeys K H2 es ∧ Td K H2 (.ref b) d ∧ (nk d).depth ≤ 8 ∧ Q (.bl (ndGet es d).isSome) H2
theorem pc_ndin {i o : Expr} {ty td : TE} (hu : X.A.units + 64 < cLine) (hi : PE X i ty) (ho : PE X o td) : PC X .In i o (tNdIn X.K X.prog X.w ty td) := by
  refine ⟨fun pins s σ H Q I h => ?_⟩
  refine thn (hi.run pins s σ H _ I h) fun iv s1 ⟨y, H1, I1, ry, q1⟩ => thn (ho.run pins s1 σ H1 _ I1 q1) fun u s2 ⟨x, H2, I2, rx, a, es, b, d, ex, ey, g, hk, hd, hz, q2⟩ => ?_
  subst ex ey
  obtain rfl : u = Value.ref a := rx
  obtain rfl : iv = Value.ref b := ry
  obtain ⟨_, lo, xs, r, dd⟩ := nd_of I2 g hk
  refine wpAny_in_heap (nd_room hu) (nd_key I2 hd hz) lo dd ?_
  rw [nd_isSome r]
  exact ⟨.bl (ndGet es d).isSome, H2, I2.tok _, rfl, q2⟩
def tNdGet (K : PySem.W.Frag) (P : Program) (w : World) (td ty : TE) : TE := fun σ H Q => td σ H fun x H1 => ty σ H1 fun y H2 => ∃ a es b d v, x = .ref a ∧ y = .ref b ∧ H2 a = some (NdO P w a es) ∧ NdKeys K H2 es ∧ Td K H2 (.ref b) d ∧ (nk d).depth ≤ 8 ∧ ndGet es d = some v ∧ Q v H2
theorem pe_ndget {i o : Expr} {ty td : TE} {pos : Pos} (hu : X.A.units + 64 < cLine) (ho : PE X o td) (hi : PE X i ty) (hs : NoSl i) : PE X (.Subscript o i pos) (tNdGet X.K X.prog X.w td ty) := by
  refine ⟨fun pins s σ H Q I h => ?_⟩
  refine subD_of PySem.F.slot_dict_getitem.lookup hs (thn (ho.run pins s σ H _ I h) fun u s1 ⟨x, H1, I1, rx, q1⟩ => thn (hi.run pins s1 σ H1 _ I1 q1) fun iv s2 ⟨y, H2, I2, ry, a, es, b, d, v, ex, ey, g, hk, hd, hz, hv, q2⟩ => ?_)
  subst ex ey
  obtain rfl : u = Value.ref a := rx
  obtain rfl : iv = Value.ref b := ry
  obtain ⟨_, lo, xs, r, dd⟩ := nd_of I2 g hk
  obtain ⟨p, hp, rp⟩ := (nd_find (d := d) r).1 v hv
  exact ⟨dd.typeIs, wpAny_getItem_heap (nd_room hu) (nd_key I2 hd hz) dd hp ⟨v, H2, I2.tok _, rp, q2⟩⟩
def sNdPut (K : PySem.W.Frag) (P : Program) (w : World) (td ty tv : TE) : TS := fun D σ H => tv σ H fun v H1 => td σ H1 fun x H2 => ty σ H2 fun y H3 => ∃ a es b d, x = .ref a ∧ y = .ref b ∧ H3 a = some (NdO P w a es) ∧ NdKeys K H3 es ∧ Td K H3 (.ref b) d ∧ (nk d).depth ≤ 8 ∧ es.length ≤ 100000 ∧ D.nx σ (upd H3 a (NdO P w a (ndPut es d b v)))
theorem nd_set {Q : Unit → Shared → Prop} {b : Addr} (hu : (nestedKind X.prog X.w).room A.in1) (I : Inv X pins σ H s) (g : H a = some (NdO X.prog X.w a es)) (hk : NdKeys X.K H es) (hb : Td X.K H (.ref b) d) (hd : (nk d).depth ≤ 8) (hz : es.length ≤ 100000) (rv : RelV v r)
    (h : ∀ s', Inv X pins σ (upd H a (NdO X.prog X.w a (ndPut es d b v))) s' → Q () s') : wpAny (model X.prog X.w) A (setItem (.ref a) (.ref b) r) Q E s := by
  obtain ⟨z, lo, xs, rel, dd⟩ := nd_of I g hk
  have hl : (ndPut es d b v).length ≤ sizeLine := Nat.le_trans (ndPut_len es d b v) (Nat.le_trans (Nat.succ_le_succ hz) (by decide))
  refine wpAny_setItem_heap (hsz := by rw [← Paired.length rel]; exact z) hu (nd_key I hb hd) dd fun h' dd' hs => h _ ?_
  obtain ⟨o, ds, ep, h1, h2, h3, h4, h5, h6⟩ := id dd'
  exact d_write I (by rw [g]; exact True.intro) hs ⟨o, h1⟩ (nd_mk hl lo (nd_put rel rv) h1 h2 h3 h4 h6)
theorem nd_dictSet {Q : Unit → Shared → Prop} {b : Addr} (hu : (nestedKind X.prog X.w).room A) (I : Inv X pins σ H s) (g : H a = some (NdO X.prog X.w a es)) (hk : NdKeys X.K H es) (hb : Td X.K H (.ref b) d) (hd : (nk d).depth ≤ 8) (hz : es.length ≤ 100000) (rv : RelV v r)
    (h : ∀ s', Inv X pins σ (upd H a (NdO X.prog X.w a (ndPut es d b v))) s' → Q () s') : wpAny (model X.prog X.w) A (dictSet a (.ref b) r) Q E s := by
  obtain ⟨z, lo, xs, rel, dd⟩ := nd_of I g hk
  have hl : (ndPut es d b v).length ≤ sizeLine := Nat.le_trans (ndPut_len es d b v) (Nat.le_trans (Nat.succ_le_succ hz) (by decide))
  refine wpAny_dictSet_heap (hsz := by rw [← Paired.length rel]; exact z) hu (nd_key I hb hd) dd fun h' dd' hs => h _ ?_
  obtain ⟨o, ds, ep, h1, h2, h3, h4, h5, h6⟩ := id dd'
  exact d_write I (by rw [g]; exact True.intro) hs ⟨o, h1⟩ (nd_mk hl lo (nd_put rel rv) h1 h2 h3 h4 h6)
theorem ps_ndput {i o value : Expr} {td ty tv : TE} {pos pos' : Pos} (hu : X.A.units + 64 < cLine) (ho : PE X o td) (hi : PE X i ty) (hv : PE X value tv) (hs : swapsWith value (some (.Subscript o i pos')) pos.line X.env = pure false) :
    PS X (.Assign [.Subscript o i pos'] value pos) (sNdPut X.K X.prog X.w td ty tv) := by
  refine ⟨fun pins s σ H D I h => ?_⟩
  refine wpAny_Assign_Subscript (thn (hv.run pins s σ H _ I h) fun r s1 ⟨v, H1, I1, rv, q1⟩ => thn (ho.run pins s1 σ H1 _ I1 q1) fun u s2 ⟨x, H2, I2, rx, q2⟩ => thn (hi.run pins s2 σ H2 _ I2 q2) fun iv s3 ⟨y, H3, I3, ry, a, es, b, d, ex, ey, g, hk, hb, hd, hz, q3⟩ => ?_) hs
  subst ex ey
  obtain rfl : u = Value.ref a := rx
  obtain rfl : iv = Value.ref b := ry
  exact nd_set (nd_room hu) I3 g hk hb hd hz rv fun s4 I4 => ⟨σ, _, I4, q3⟩
end
end CW

set_option maxRecDepth 100000
set_option maxHeartbeats 4000000
/-! sorted(x, key=f): x a list, a dict. -/
namespace CW
open PySem PySem.Spec PyProof.Rows L2
def kD : Key → PyData
  | .inl i => .int i
  | .inr x => .str x
/-- what is collected from x -/
inductive SrcOk (K : PySem.W.Frag) (P : Program) (w : World) (H : Hp) (a : Addr) (ds : List PyData) : Prop
  | lst (vs : List V) : SqL K H a vs → TdAll K H vs ds → SrcOk K P w H a ds
  | dk (kvs : List (Key × V)) : Rd H a (.dK kvs) → ds = kvs.map (fun kv => kD kv.1) → SrcOk K P w H a ds
  | nd (es : List NdE) : H a = some (NdO P w a es) → NdKeys K H es → ds = es.map (·.1) → SrcOk K P w H a ds
section
variable {X : Cx} {pins : List (Addr × Obj)} {σ : L2.St} {H : Hp} {s : Shared} {E : Value → Shared → Prop}
theorem keys_vals {P : Program} {w : World} : ∀ {kvs : List (Key × Value)} {us : List Value}, us.length = kvs.length → (∀ (j : Nat) (v : Value), us[j]? = some v → ∃ k x, kvs[j]? = some (k, x) ∧ (mixKind P w).is k v = true) → Vals (kvs.map (fun kv => kV kv.1)) us
  | [], [], _, _ => .nil
  | (k, x) :: kvs, u :: us, hl, h => by
    obtain ⟨k', x', e1, e2⟩ := h 0 u rfl
    cases Option.some.inj e1
    refine .cons ?_ (keys_vals (P := P) (w := w) (by simpa using hl) fun j v e => ?_)
    · rcases keyIs_shape (show keyIs k u = true from e2) with ⟨i, t, ek, ev⟩ | ⟨z, t, ek, ev⟩
      · subst ek ev
        exact ⟨t, rfl⟩
      · subst ek ev
        exact ⟨t, rfl⟩
    · obtain ⟨k, x, a, b⟩ := h (j + 1) v (by simpa using e)
      exact ⟨k, x, by simpa using a, b⟩
  | [], _ :: _, hl, _ => by simp at hl
  | _ :: _, [], hl, _ => by simp at hl
theorem td_key {K : PySem.W.Frag} : ∀ k : Key, Td K H (kV k) (kD k)
  | .inl i => .int i
  | .inr x => .str x
theorem td_keys {K : PySem.W.Frag} : ∀ kvs : List (Key × V), TdAll K H (kvs.map (fun kv => kV kv.1)) (kvs.map (fun kv => kD kv.1))
  | [] => .nil
  | kv :: kvs => .cons (td_key kv.1) (td_keys kvs)
theorem td_nds {K : PySem.W.Frag} : ∀ {es : List NdE}, NdKeys K H es → TdAll K H (es.map (fun e => V.ref e.2.1)) (es.map (·.1))
  | [], _ => .nil
  | e :: es, h => .cons (h e List.mem_cons_self).1 (td_nds fun x hx => h x (List.mem_cons_of_mem _ hx))
theorem refs_of : ∀ {as : List Addr} {us : List Value}, us.length = as.length → (∀ (j : Nat) (v : Value), us[j]? = some v → ∃ b, as[j]? = some b ∧ v = .ref b) → Vals (as.map V.ref) us
  | [], [], _, _ => .nil
  | a :: as, u :: us, hl, h => by
    obtain ⟨b, e1, e2⟩ := h 0 u rfl
    cases Option.some.inj e1
    exact .cons e2 (refs_of (by simpa using hl) fun j v e => h (j + 1) v (by simpa using e))
  | [], _ :: _, hl, _ => by simp at hl
  | _ :: _, [], hl, _ => by simp at hl
theorem nd_left : ∀ {es : List NdE} {xs : List NdX} {j : Nat} {y : NdX}, Paired NdRel es xs → xs[j]? = some y → ∃ e, es[j]? = some e ∧ NdRel e y
  | _, _, _, _, .nil, h => by simp at h
  | e :: es, x :: xs, 0, y, .cons r t, h => ⟨e, rfl, by rw [← Option.some.inj h]; exact r⟩
  | e :: es, x :: xs, j + 1, y, .cons r t, h => nd_left (j := j) t (by simpa using h)
/-- a new value is collected -/
theorem collect_src {a : Addr} {ds : List PyData} {A : Around} {R : List Value → Shared → Prop} (hh : A.handled = none) (I : Inv X pins σ H s) (S : SrcOk X.K X.prog X.w H a ds)
    (h : ∀ s' acc ys, Inv X pins σ H s' → Vals ys acc → TdAll X.K H ys ds → acc.length ≤ sizeLine → R acc s') : wpAny (model X.prog X.w) A (collect (.ref a)) R E s := by
  cases S with
  | lst vs hs td =>
    obtain ⟨its, rv, hl, hz⟩ := I.list hs
    have hzl : its.length ≤ sizeLine := by rw [← rv.length]; exact hz
    refine PyProof.Rows.collect_list hl.isList (h _ its vs (I.kept (fun b o e => ?_)) rv td hzl) hzl
    rw [Heap.get?_update_ne _ _ _ _ (Nat.ne_of_lt (Heap.lt_size e))]
    exact Heap.get?_push_of_some _ e
  | dk kvs hd e =>
    subst e
    obtain ⟨z, lo, vs, rel, dd⟩ := dk_rd I.hok hd
    obtain ⟨ep, hat⟩ := dd.dictAt
    have h16 : vs.length ≤ sizeLine := by rw [← rel.length]; exact z
    refine PySem.W.kdu_collect (PySem.W.kdl_dict (knd := mixKind X.prog X.w) (kvs := vs) (ep := ep) lo) hh hat h16 fun h' tk acc hk hacc => ?_
    have hal : acc.toList.length = vs.length := by simpa using hacc.1
    have q := keys_vals (P := X.prog) (w := X.w) (kvs := vs) (us := acc.toList) hal fun j v e => hacc.2 j v (by rw [← Array.getElem?_toList]; exact e)
    have ek : vs.map (fun kv => kV kv.1) = kvs.map (fun kv => kV kv.1) := by
      have := congrArg (List.map kV) rel.keys
      simpa [List.map_map, Function.comp_def] using this.symm
    rw [ek] at q
    exact h _ _ _ (I.kept hk) q (td_keys kvs) (by rw [hal]; exact h16)
  | nd es hd hk e =>
    subst e
    obtain ⟨z, lo, xs, rel, dd⟩ := nd_of I hd hk
    obtain ⟨des, ep, raw, hsz, hent⟩ := dd.raw
    have hx : xs.length = es.length := (Paired.length rel).symm
    refine PySem.W.kdu_collect (KdlSrc.rawDict (es := des) (ep := ep) lo) hh raw (by rw [hsz, hx]; exact z) fun h' tk acc hk2 hacc => ?_
    have hal : acc.toList.length = es.length := by
      have := hacc.1
      rw [Array.length_toList]
      omega
    have q : Vals ((es.map (·.2.1)).map V.ref) acc.toList := refs_of (by rw [List.length_map]; exact hal) fun j v e => by
      obtain ⟨hi, rfl⟩ := hacc.2 j v (by rw [← Array.getElem?_toList]; exact e)
      obtain ⟨y, hy, k1, _, _⟩ := hent j hi
      obtain ⟨e', he, r1, r2, _⟩ := nd_left rel hy
      refine ⟨y.2.1, ?_, k1⟩
      rw [List.getElem?_map, he, r2]
      rfl
    rw [List.map_map] at q
    exact h _ _ _ (I.kept hk2) q (td_nds hk) (by rw [hal]; exact z)
end
section
variable {X : Cx}
/-- sorted(x, key=f) -/
def rSortK (K : PySem.W.Frag) (P : Program) (w : World) (f : Addr) (sp : Sp) : List V → List V → Hp → VK → Prop := fun vs zs H Q => ∃ (a : Addr) (α : Type) (enc key : α → PyData) (xs : List α), vs = [.ref a] ∧ zs = [.ref f] ∧ SrcOk K P w H a (xs.map enc) ∧ xs.length ≤ 100000 ∧
  PySem.W.AllAlike (xs.map key) ∧ (∀ x ∈ xs, ∃ ds, key x = .tuple ds) ∧ (∀ x ∈ xs, (key x).depth ≤ 8) ∧
  (∀ (i : Nat) (x : α) (y : V) (H' : Hp), xs[i]? = some x → Same H H' → Td K H' y (enc x) → ∀ Q : VK, (∀ v H'', Same H' H'' → Td K H'' v (key x) → Q v H'') → sp [y] H' Q E0) ∧
  ∀ p out H', H p = none → Same H H' → H' p = some (.lst out) → TdAll K H' out ((xs.mergeSort (PySem.W.dataLe false key)).map enc) → Q (.ref p) H'
theorem cr_sortK {k : Nat} {f : Addr} {fd : FuncData} {ps : List Str} {sp : Sp} (hc : X.calm = true) (F : FnOk X.prog X.w X.K X.mg X.base C8.CX0 k f fd ps sp) (hr : Room (k + 2) X.A) (hb : Binds X.K fd ps []) :
    CallRK X (.builtin "sorted") [Str.ofString "key"] (rSortK X.K X.prog X.w f sp) := by
  intro pins s σ H vs zs us ws Q I r rz h
  obtain ⟨a, α, enc, key, xs, rfl, rfl, src, hz, hal, hsk, hd, turn, q⟩ := h
  obtain rfl := Vals.ref1 r
  obtain ⟨w1, rfl, e1⟩ := vals1 rz
  obtain rfl : w1 = Value.ref f := e1
  refine PyProof.Rows.call_function_entry_kw PyProof.Rows.kind_sorted PyProof.Rows.plain_sorted PyProof.Rows.entry_sorted (PyProof.Rows.ksk_s1 _ _) ?_
  unfold Builtin.«sorted»
  refine wpAny_bind (m := checkCount "sorted" 1 1 _) (wpAny_pure ?_)
  refine wpAny_bind (collect_src (A := X.A.in1) (I.ok.hd hc) I src fun s1 acc ys I1 rv td hzl => ?_)
  refine wpAny_bind (wpAny_newList ?_ hzl)
  have hoL : (s1.heap.push (seqObj "list" acc.toArray 0)).get? s1.heap.objs.size = some (seqObj "list" acc.toArray 0) := Heap.get?_push_size _ rfl
  have hn : H s1.heap.objs.size = none := I1.hok.fresh (Nat.le_refl _)
  have fa : FpOk X pins H s1.heap.objs.size := I1.fpOk (Nat.le_refl _) hn
  have I2 : Inv X pins σ H { s1 with heap := s1.heap.push (seqObj "list" acc.toArray 0), toks := s1.toks } := I1.kept fun b o e => Heap.get?_push_of_some _ e
  show wpAny _ _ _ _ _ { s1 with heap := s1.heap.push (seqObj "list" acc.toArray 0) }
  refine wpAny_bind (wpAny_holding (PyProof.Rows.wpAny_call_entry_kw PyProof.Rows.slot_list_sort ⟨_, hoL, rfl⟩ PyProof.Rows.entry_list_sort ?_ (PyProof.Rows.ksk_l1 _ _)))
  show wpAny _ _ (Builtin.«list.sort» ⟨[.ref _], [(Str.ofString "key", .ref f)]⟩) _ _ _
  rw [PyProof.Rows.ksk_t1]
  refine sort_tree F hr hb I2 hoL fa rv td hz hal hsk hd turn fun H' out s' I3 sm hn' to => ⟨_, rfl, ?_⟩
  exact wpAny_pure ⟨_, rfl, .ref _, _, I3, rfl, q _ out _ hn (sm.trans (same_upd hn')) upd_same (to.same (same_upd hn'))⟩
end
end CW

set_option maxRecDepth 100000
set_option maxHeartbeats 4000000
/-! sorted(x, key=f) as a rule; `in` over tuples of data; shapes of data. -/
namespace CW
open PySem PySem.Spec PyProof.Rows L2
open C8 (Cal Met Mak pe_c pe_mk pe_mt pe_mt0)
def rSortK' (K : PySem.W.Frag) (P : Program) (w : World) (sp : Sp) (v : V) (H1 : Hp) (Q : VK) : Prop := ∃ (a : Addr) (α : Type) (enc key : α → PyData) (xs : List α), v = .ref a ∧ SrcOk K P w H1 a (xs.map enc) ∧ xs.length ≤ 100000 ∧
  PySem.W.AllAlike (xs.map key) ∧ (∀ x ∈ xs, ∃ ds, key x = .tuple ds) ∧ (∀ x ∈ xs, (key x).depth ≤ 8) ∧
  (∀ (i : Nat) (x : α) (y : V) (H' : Hp), xs[i]? = some x → Same H1 H' → Td K H' y (enc x) → ∀ Q : VK, (∀ v H'', Same H' H'' → Td K H'' v (key x) → Q v H'') → sp [y] H' Q E0) ∧
  ∀ p out H', H1 p = none → Same H1 H' → H' p = some (.lst out) → TdAll K H' out ((xs.mergeSort (PySem.W.dataLe false key)).map enc) → Q (.ref p) H'
def tSortK (K : PySem.W.Frag) (P : Program) (w : World) (sp : Sp) (te : TE) : TE := fun σ H Q => te σ H fun v H1 => rSortK' K P w sp v H1 Q
theorem rSortK_eq {K : PySem.W.Frag} {P : Program} {w : World} {sp : Sp} {f : Addr} {v : V} {H1 : Hp} {Q : VK} : rSortK' K P w sp v H1 Q = rSortK K P w f sp [v] [.ref f] H1 Q :=
  propext ⟨fun ⟨a, α, enc, key, xs, e, h⟩ => ⟨a, α, enc, key, xs, by rw [e], rfl, h⟩, fun ⟨a, α, enc, key, xs, e, _, h⟩ => ⟨a, α, enc, key, xs, by simpa using e, h⟩⟩
section
variable {X : Cx} {sp : Sp} {te : TE} {e : Expr} {x : Str} {p p2 kp pos : Pos} {j k : Nat}
theorem pe_sortedK (hc : X.calm = true) (c : Cal X.prog X.w X.K X.mg X.base k x sp []) (hr : Room j X.A) (hk : k + 2 ≤ j) (hg : Gl X "sorted") (hm : X.mg "sorted" = none) (hgf : Gl X x) (ha : PE X e te) (hd : (x == ("__debug__" : Str)) = false := by decide)
    (hs : starEach [e] X.env = (false, eval e X.env) :: starEach [] X.env := by rfl) (he : backTo pos (starEach [e] X.env) = (false, eval e X.env) :: backTo pos (starEach [] X.env) := by rfl) (hpl : (backTo pos (starEach [e] X.env)).any (·.1) = false := by rfl)
    (hall : (backToKw pos (keywordEach [⟨some "key", .Name x p2, kp⟩] X.env)).all (·.1.isSome) = true := by rfl) (hnone : (backToKw pos (keywordEach [⟨some "key", .Name x p2, kp⟩] X.env)).any (·.1.isNone) = false := by rfl) (hks : (backToKw pos (keywordEach [⟨some "key", .Name x p2, kp⟩] X.env)).filterMap (·.1) = [Str.ofString "key"] := by rfl) :
    PE X (.Call (.Name "sorted" p) [e] [⟨some "key", .Name x p2, kp⟩] pos) (tSortK X.K X.prog X.w sp te) := by
  obtain ⟨f, fd, ps, ds, F, hmf, kpf, b, d⟩ := c.ex
  cases d
  refine ⟨fun pins s σ H Q I h => ?_⟩
  have R := pe_callBK (X := X) (p := p) (pos := pos) (cr_sortK hc F (hr.mono hk) b) hg hm (by decide +kernel) (pa_cons ha pa_nil hs) (pk_cons (kpos := kp) (nm := some "key") (pe_glob (pos := p2) (v := .ref f) hgf hmf rfl hd) pk_nil) (by decide) (by decide) he hpl hall hnone hks
  refine R.run pins s σ H Q I ?_
  have e : (fun v H1 => rSortK' X.K X.prog X.w sp v H1 Q) = fun v H1 => rSortK X.K X.prog X.w f sp [v] [.ref f] H1 Q := funext fun v => funext fun H1 => rSortK_eq
  have h' : te σ H (fun v H1 => rSortK' X.K X.prog X.w sp v H1 Q) := h
  rw [e] at h'
  exact h'
end
/-! ### in over a tuple of data -/
section
variable {X : Cx}
def rInTD (K : PySem.W.Frag) (n : Bool) : R2 := fun x y H Q => ∃ d ds, Dp K H x d ∧ Dp K H y (.tuple ds) ∧ SeqAt.shaped d = true ∧ SeqAt.shaped (.tuple ds) = true ∧ Q (.bl (xor n (ds.any fun z => PyData.eqv z d))) H
theorem op_inT (hu : X.A.units + 65 < cLine) : OpR X (compareOp .In) (rInTD X.K false) := by
  intro pins s σ H x y v u Q I rx ry h
  obtain ⟨d, ds, hd, he, sd, se, q⟩ := h
  obtain ⟨as, r1⟩ := Dp.reads I d x v hd rx
  obtain ⟨bs, r2⟩ := Dp.reads I (.tuple ds) y u he ry
  refine SeqAt.in_tuple_reads r2 r1 (SeqAt.canLay_of_shaped se) (SeqAt.canLay_of_shaped sd) (room_in_shaped sd hu) ⟨.bl _, H, I, rfl, ?_⟩
  simpa using q
theorem op_notInT (hu : X.A.units + 65 < cLine) : OpR X (compareOp .NotIn) (rInTD X.K true) := by
  intro pins s σ H x y v u Q I rx ry h
  obtain ⟨d, ds, hd, he, sd, se, q⟩ := h
  obtain ⟨as, r1⟩ := Dp.reads I d x v hd rx
  obtain ⟨bs, r2⟩ := Dp.reads I (.tuple ds) y u he ry
  refine SeqAt.notIn_tuple_reads r2 r1 (SeqAt.canLay_of_shaped se) (SeqAt.canLay_of_shaped sd) (room_in_shaped sd hu) ⟨.bl _, H, I, rfl, ?_⟩
  simpa using q
end
/-! ### shapes -/
def Shp (n : Nat) (d : PyData) : Prop := d.canLay0 = true ∧ d.depth ≤ n
theorem shp_int {n : Nat} {i : Int} : Shp n (.int i) := ⟨by rw [PyData.canLay0], by rw [PyData.depth]; omega⟩
theorem shp_bool {n : Nat} {i : Bool} : Shp n (.bool i) := ⟨by rw [PyData.canLay0], by rw [PyData.depth]; omega⟩
theorem shp_none {n : Nat} : Shp n .none := ⟨by rw [PyData.canLay0], by rw [PyData.depth]; omega⟩
theorem shp_all {n : Nat} : ∀ {ds : List PyData}, (∀ d ∈ ds, Shp n d) → PyData.canLayAll0 ds = true ∧ PyData.depthAll ds ≤ n
  | [], _ => ⟨by rw [PyData.canLayAll0], by rw [PyData.depthAll]; omega⟩
  | d :: ds, h => by
    obtain ⟨h1, h2⟩ := shp_all fun x hx => h x (List.mem_cons_of_mem _ hx)
    obtain ⟨h3, h4⟩ := h d List.mem_cons_self
    exact ⟨by rw [PyData.canLayAll0, h1, h3]; rfl, by rw [PyData.depthAll]; omega⟩
theorem shp_tup {n : Nat} {ds : List PyData} (h : ∀ d ∈ ds, Shp n d) : Shp (n + 1) (.tuple ds) := by
  obtain ⟨h1, h2⟩ := shp_all h
  exact ⟨by rw [PyData.canLay0]; exact h1, by rw [PyData.depth]; omega⟩
theorem shp_lst {n : Nat} {ds : List PyData} (h : ∀ d ∈ ds, Shp n d) : Shp (n + 1) (.list ds) := by
  obtain ⟨h1, h2⟩ := shp_all h
  exact ⟨by rw [PyData.canLay0]; exact h1, by rw [PyData.depth]; omega⟩
theorem Shp.mono {n m : Nat} {d : PyData} (h : Shp n d) (hm : n ≤ m) : Shp m d := ⟨h.1, Nat.le_trans h.2 hm⟩
theorem Shp.shaped {n : Nat} {d : PyData} (h : Shp n d) (hn : n ≤ 64 := by decide) : SeqAt.shaped d = true := by
  unfold SeqAt.shaped
  rw [h.1, decide_eq_true (Nat.le_trans h.2 hn)]
  rfl
theorem shp_dC (c : Cl) : Shp 1 (dC c) := shp_tup (n := 0) fun d hd => by
  obtain ⟨i, _, rfl⟩ := List.mem_map.mp hd
  exact shp_int
theorem shp_dR (r : Rs) : Shp 2 (dR r) := shp_tup (n := 1) fun d hd => by
  obtain ⟨i, _, rfl⟩ := List.mem_map.mp hd
  exact shp_dC i
theorem eqvAll_map {α : Type} [DecidableEq α] {f : α → PyData} (h : ∀ a b, PyData.eqv (f a) (f b) = decide (a = b)) : ∀ xs ys : List α, PyData.eqvAll (xs.map f) (ys.map f) = decide (xs = ys)
  | [], [] => rfl
  | [], y :: ys => rfl
  | x :: xs, [] => rfl
  | x :: xs, y :: ys => by
    rw [List.map_cons, List.map_cons, PyData.eqvAll, h, eqvAll_map h xs ys]
    by_cases e : x = y
    · by_cases e2 : xs = ys <;> simp [e, e2]
    · simp [e]
theorem eqv_int (a b : Int) : PyData.eqv (.int a) (.int b) = decide (a = b) := by
  rw [PyData.eqv]
  by_cases e : a = b <;> simp [e]
theorem eqv_tup {α : Type} [DecidableEq α] {f : α → PyData} (h : ∀ a b, PyData.eqv (f a) (f b) = decide (a = b)) (xs ys : List α) : PyData.eqv (.tuple (xs.map f)) (.tuple (ys.map f)) = decide (xs = ys) := by
  rw [PyData.eqv]
  exact eqvAll_map h xs ys
theorem eqv_dC (a b : Cl) : PyData.eqv (dC a) (dC b) = decide (a = b) := eqv_tup eqv_int a b
theorem eqv_dR (a b : Rs) : PyData.eqv (dR a) (dR b) = decide (a = b) := eqv_tup eqv_dC a b
/-! ### readings -/
section
variable {K : PySem.W.Frag} {H0 Hk H H' : Hp} {σ : L2.St} {Γ : List Sl} {te ta tb tc : TE} {tr : TA} {tt tu : TT} {d e x : PyData} {ds es : List PyData} {b b' : Bool} {a a' : Ar} {as : List Ar} {i : Nat} {n m : Int}
theorem et_inTD {bn : Bool} (ha : ET K ta σ H d) (hb : ET K tb σ H (.tuple ds)) (h1 : SeqAt.shaped d = true) (h2 : SeqAt.shaped (.tuple ds) = true) : ET K (tOp (rInTD K bn) ta tb) σ H (.bool (xor bn (ds.any fun z => PyData.eqv z d))) := fun H1 q Q k =>
  ha H1 q _ fun v H2 e2 h3 => hb H2 (q.trans e2) _ fun u H3 e3 h4 => ⟨d, ds, Td.dp _ _ (h3.same e3), Td.dp _ _ h4, h1, h2, k _ H3 (e2.trans e3) (.bl _)⟩
theorem dpl {a : Addr} {vs : List V} (h : SqL K H a vs) (t : TdAll K H vs ds) : Dp K H (.ref a) (.list ds) := .lst h (TdAll.dp _ _ t)
theorem et_inLD (ha : ET K ta σ H d) (hb : E1 K tb σ H (.l ds)) (h1 : SeqAt.shaped d = true) (h2 : SeqAt.shaped (.list ds) = true) : ET K (tOp (rInD K) ta tb) σ H (.bool (ds.any fun z => PyData.eqv z d)) := fun H1 q Q k =>
  ha H1 q _ fun v H2 e2 h3 => hb H2 (q.trans e2) _ fun u H3 e3 h4 => by
    obtain ⟨p, vs, rfl, t, z⟩ := h4
    exact ⟨d, ds, Td.dp _ _ (h3.same e3), dpl t z, h1, h2, k _ H3 (e2.trans e3) (.bl _)⟩
theorem et_ninLD (ha : ET K ta σ H d) (hb : E1 K tb σ H (.l ds)) (h1 : SeqAt.shaped d = true) (h2 : SeqAt.shaped (.list ds) = true) : ET K (tOp (rNotInD K) ta tb) σ H (.bool (!ds.any fun z => PyData.eqv z d)) := fun H1 q Q k =>
  ha H1 q _ fun v H2 e2 h3 => hb H2 (q.trans e2) _ fun u H3 e3 h4 => by
    obtain ⟨p, vs, rfl, t, z⟩ := h4
    exact ⟨d, ds, Td.dp _ _ (h3.same e3), dpl t z, h1, h2, k _ H3 (e2.trans e3) (.bl _)⟩
/-- sorted(a list, key=f), f a def of data -/
theorem el_sortK {P : Program} {w : World} {Pf : List Ar → PyData → Prop} {α : Type} {enc key : α → PyData} {xs : List α} (ha : E1 K ta σ H (.l (xs.map enc))) (hz : xs.length ≤ 100000) (hal : PySem.W.AllAlike (xs.map key)) (hsk : ∀ x ∈ xs, ∃ ds, key x = .tuple ds) (hd : ∀ x ∈ xs, (key x).depth ≤ 8) (hf : ∀ x ∈ xs, Pf [.t (enc x)] (key x)) :
    EL K (tSortK K P w (spT K Pf) ta) σ H ((xs.mergeSort (PySem.W.dataLe false key)).map enc) := fun H1 q Q k =>
  ha H1 q _ fun v H2 e2 h2 => by
    obtain ⟨p, vs, rfl, t, z⟩ := h2
    exact ⟨p, α, enc, key, xs, rfl, .lst vs t z, hz, hal, hsk, hd, fun i x y H' hx e' ty Q' k' => ⟨[.t (enc x)], key x, .cons ty .nil, hf x (List.mem_of_getElem? hx), k'⟩, fun p' out H' hp e3 h3 h4 => k p' out H' (e2.free hp) (e2.trans e3) h3 h4⟩
end
end CW

set_option maxRecDepth 100000
set_option maxHeartbeats 4000000
/-! name = {k: v for x in xs}: for each kind of dict at once. -/
namespace CW
open PySem PySem.Spec PyProof.Rows L2
/-- a kind of dict: what {} is, and what d[k] = v asks and does -/
structure DKd (P : Program) (w : World) (K : PySem.W.Frag) (A : Around) where
  emp : Addr → HO
  nt : ∀ D xs, emp D ≠ .tup xs
  ok : ∀ (H : Hp) (h : Heap), sysModules < h.objs.size → ObjOk P w H (h.push { cls := .type "dict", data := .dict #[] }) h.objs.size (emp h.objs.size)
  put : V → V → Addr → Hp → (Hp → Prop) → Prop
  run : ∀ (X : Cx), X.prog = P → X.w = w → X.K = K → X.A = A → ∀ (pins : List (Addr × Obj)) (σ : L2.St) (H : Hp) (s : Shared) (E : Value → Shared → Prop) (D : Addr) (y z : V) (u r : Value) (Nx : Hp → Prop) (Q : Unit → Shared → Prop),
    Inv X pins σ H s → RelV y u → RelV z r → put y z D H Nx → (∀ H' s', Inv X pins σ H' s' → Nx H' → Q () s') → wpAny (model P w) A (dictSet D u r) Q E s
def dkInt (P : Program) (w : World) (K : PySem.W.Frag) (A : Around) : DKd P w K A where
  emp := fun _ => .dK []
  nt := fun _ _ z => by cases z
  ok := fun _ h hb => dk_empty h hb
  put := fun y z D H Nx => ∃ kvs k, y = kV k ∧ H D = some (.dK kvs) ∧ kvs.length < sizeLine ∧ Nx (upd H D (.dK (putK kvs k z)))
  run := by
    rintro X rfl rfl rfl rfl pins σ H s E D y z u r Nx Q I ry rz ⟨kvs, k, rfl, hD, hz, nx⟩ h
    exact d_dictSet I hD hz ry rz fun s' I' => h _ s' I' nx
def dkNd (P : Program) (w : World) (K : PySem.W.Frag) (A : Around) (hu : A.units + 64 < cLine) : DKd P w K A where
  emp := fun D => NdO P w D []
  nt := fun _ _ z => by cases z
  ok := fun _ h hb => nd_empty h hb
  put := fun y z D H Nx => ∃ es b d, y = .ref b ∧ H D = some (NdO P w D es) ∧ NdKeys K H es ∧ Td K H (.ref b) d ∧ (nk d).depth ≤ 8 ∧ es.length ≤ 100000 ∧ Nx (upd H D (NdO P w D (ndPut es d b z)))
  run := by
    rintro X rfl rfl rfl rfl pins σ H s E D y z u r Nx Q I ry rz ⟨es, b, d, rfl, hD, hk, hb, hd, hz, nx⟩ h
    obtain rfl : u = Value.ref b := ry
    exact nd_dictSet (nd_room0 hu) I hD hk hb hd hz rz fun s' I' => h _ s' I' nx
section
variable {X : Cx}
/-- D: the new dict -/
def tDcG {P : Program} {w : World} {K : PySem.W.Frag} {A : Around} (kd : DKd P w K A) (wi : TI) (g : TG) (tt : TT) (tk tv : TE) (vs : List Nat) : TE := fun σ H Q => wi σ H fun J H1 => ∀ D, H1 D = none → ∃ W : Nat → Nat → Hp → Prop, (∃ m, W 0 m (upd H1 D (kd.emp D))) ∧ ∀ i m H, W i m H →
  (J.stop i H ∧ Q (.ref D) H) ∨ (J.go i H ∧ ∃ Nx : Hp → Prop, (∀ H', Nx H' → ∃ m', m' < m ∧ W (i + 1) m' H') ∧ ∀ x H', J.yld i H x H' → g x (wipe σ vs) H' fun σ2 H2 => wipe σ2 vs = wipe σ vs ∧ tt σ2 H2 fun b H3 =>
    if b = true then tk σ2 H3 fun y H4 => tv σ2 H4 fun z H5 => kd.put y z D H5 Nx else Nx H3)
variable {pins : List (Addr × Obj)} {s : Shared} {σ : L2.St} {H : Hp} {Q : VK} {kx vx tg iter : Expr} {ifs : List Expr} {scope : Scope} {own : List (Str × Nat)} {pos pos' spos py : Pos} {wi : TI} {g : TG} {tt : TT} {tk tv : TE} {use : Option (Value → Sem Unit)} {Qf : Value → Shared → Prop} {kd : DKd X.prog X.w X.K X.A}
theorem dcg_core (hc : X.calm = true) (hN : X.N.Nodup) (I : Inv X pins σ H s) (hi : PI X tg iter wi) (ok : BlkOk X.N X.env.scope scope own)
    (hg : ∀ (s : Shared) (H : Hp) (C : Addr) (cl : List (Str × Addr)) (fp : List Addr), PG (X.blk s H scope (compEnvC scope cl C X.env) fp) tg g) (ht : ∀ (s : Shared) (H : Hp) (C : Addr) (cl : List (Str × Addr)) (fp : List Addr), PTs (X.blk s H scope (compEnvC scope cl C X.env) fp) ifs tt)
    (hk : ∀ (s : Shared) (H : Hp) (C : Addr) (cl : List (Str × Addr)) (fp : List Addr), PE (X.blk s H scope (compEnvC scope cl C X.env) fp) kx tk)
    (he : ∀ (s : Shared) (H : Hp) (C : Addr) (cl : List (Str × Addr)) (fp : List Addr), PE (X.blk s H scope (compEnvC scope cl C X.env) fp) vx tv) (hs : ∀ x, foldedSetIterable iter X.env x = pure x)
    (h : tDcG kd wi g tt tk tv (own.map (·.2)) σ H Q)
    (fin : ∀ D C s' m H', Inv X pins σ H' s' → Q (.ref D) H' → s'.heap.Ns C m → FpOk X pins H' C → compPost (model X.prog X.w) X.A X.xe use Qf (.ref D) C (.ok .next) s') :
    wpAny (model X.prog X.w) X.A (comprehension (.DictComp kx vx [⟨tg, iter, ifs, 0⟩] scope pos) scope X.env pos' newDict false (eval iter X.env) use) Qf X.xe s := by
  have free : ∀ y ∈ scope.names, y.2 = .free → ∃ c, X.env.cells.lookup y.1 = some c := fun y hy e => (ok.free y hy e).elim (fun k => I.ok.has _ (.inl k)) fun k => I.ok.has _ (.inr k)
  refine wpAny_comprehension_free (use := use) rfl hs (closure_ok free) ok.kind (fun y hy e => by rw [ok.uniq y hy, e]) (thn (hi.run pins s σ H _ I h) fun _ sA hx => thn hx fun _ sB hB => ?_)
  obtain ⟨it, fp, tn, J, HB, rfl, IB, T, stB, fpB, q⟩ := hB
  refine wpAny_newObj_type (newEnv_comp ?_)
  obtain ⟨D, hD⟩ : ∃ D, sB.heap.objs.size = D := ⟨_, rfl⟩
  have hDn : HB D = none := IB.hok.fresh (Nat.le_of_eq hD)
  obtain ⟨W, ⟨m0, w0⟩, turn⟩ := q D hDn
  obtain ⟨sC, hC⟩ : ∃ sC : Shared, ({ sB with heap := sB.heap.push { cls := .type "dict", data := .dict #[] } } : Shared) = sC := ⟨_, rfl⟩
  have heapC : sC.heap = sB.heap.push { cls := .type "dict", data := .dict #[] } := by rw [← hC]
  obtain ⟨HC, hHC⟩ : ∃ HC, upd HB D (kd.emp D) = HC := ⟨_, rfl⟩
  have IC : Inv X pins σ HC sC := by
    rw [← hC, ← hHC]
    refine IB.laid (t' := sB.toks) (fun b o e => Heap.get?_push_of_some _ e) (Nat.le_of_eq hD) ?_
    rw [← hD]
    exact kd.ok _ _ IB.big
  have fpC : ∀ b ∈ fp, FpOk X pins HC b ∧ b < sC.heap.objs.size := fun b hb => by
    obtain ⟨o, e, _⟩ := T.obj _ _ stB b hb
    have lt := Heap.lt_size e
    refine ⟨⟨?_, (fpB b hb).2⟩, by rw [heapC, Heap.size_push]; exact Nat.lt_succ_of_lt lt⟩
    rw [← hHC, upd_ne (by rw [← hD]; exact Nat.ne_of_lt lt)]
    exact (fpB b hb).1
  rw [hHC] at w0
  have stC : tn 0 sC.heap := T.keep _ _ _ stB fun b _ o e => by rw [heapC]; exact Heap.get?_push_of_some _ e
  have ID := block_start IC ok hN fpC
  generalize hcl : cellsFrom (sC.heap.objs.size + 1) scope.names (cloFrom X.env.cells scope.names []) = cl at ID
  have rg := hg sC HC sC.heap.objs.size cl fp
  have rt := ht sC HC sC.heap.objs.size cl fp
  have rk := hk sC HC sC.heap.objs.size cl fp
  have rv := he sC HC sC.heap.objs.size cl fp
  show codeAny _ _ (.compStart (.DictComp kx vx [⟨tg, iter, ifs, 0⟩] scope pos) 0 (.ref it) (.ref sB.heap.objs.size) (compEnvC scope (cellsFrom ((sB.heap.push { cls := .type "dict", data := .dict #[] }).objs.size + 1) scope.names (cloFrom X.env.cells scope.names [])) (sB.heap.push { cls := .type "dict", data := .dict #[] }).objs.size X.env)) (compPost (model X.prog X.w) X.A X.xe use Qf (.ref sB.heap.objs.size) (sB.heap.push { cls := .type "dict", data := .dict #[] }).objs.size) { sB with heap := pushCells ((sB.heap.push { cls := .type "dict", data := .dict #[] }).push { cls := .type "dict", data := .dict #[] }) scope.names }
  rw [← heapC, hcl, hD, show ({ sB with heap := pushCells (sC.heap.push { cls := .type "dict", data := .dict #[] }) scope.names } : Shared) = { sC with heap := pushCells (sC.heap.push { cls := .type "dict", data := .dict #[] }) scope.names } by rw [← hC]]
  generalize hce : compEnvC scope cl sC.heap.objs.size X.env = ce at ID rg rt rk rv ⊢
  have locC : ce.locals = sC.heap.objs.size := by rw [← hce]; rfl
  generalize hsD : ({ sC with heap := pushCells (sC.heap.push { cls := .type "dict", data := .dict #[] }) scope.names } : Shared) = sD at ID ⊢
  have stD : tn 0 sD.heap := T.keep _ _ _ stC fun b _ o e => by rw [← hsD]; exact pushCells_keeps _ _ _ _ (Heap.get?_push_of_some _ e)
  have quiet : ∀ {σ' : L2.St} {H' : Hp} {s' : Shared}, Inv (X.blk sC HC scope ce fp) [] σ' H' s' → (∀ b ∈ fp, H' b = none) → ∀ b ∈ fp, FpOk (X.blk sC HC scope ce fp) [] H' b := fun I' hn b hb =>
    ⟨hn b hb, (I'.ok.exf b hb).1, I'.ok.exfs b hb, .inl hb, fun x c e => (I'.ok.exf b hb).2 x c e, fun p hp => absurd (show p ∈ ([] : List (Addr × Obj)) ++ [] from hp) (by simp)⟩
  have loop : codeAny (model X.prog X.w) X.A (.compLoop (.DictComp kx vx [⟨tg, iter, ifs, 0⟩] scope pos) 0 (.ref it) (.ref D) ce) (compPost (model X.prog X.w) X.A X.xe use Qf (.ref D) sC.heap.objs.size) sD := by
    refine compLoop_anyD (fun n s' => ∃ i H', Inv (X.blk sC HC scope ce fp) [] (wipe σ (own.map (·.2))) H' s' ∧ tn i s'.heap ∧ (∀ b ∈ fp, H' b = none) ∧ W i n H') (fun n sE ⟨i, HE, IE, stE, nE, wE⟩ => ?_) m0 ⟨0, HC, ID, stD, fun b hb => (fpC b hb).1.1, w0⟩
    rcases turn i n HE wE with ⟨stop, qq⟩ | ⟨go, Nx, hNx, step⟩
    · refine thnF (T.done (X.blk sC HC scope ce fp) rfl rfl rfl hc i [] sE _ HE (fun _ _ => False) IE (quiet IE nE) stE stop) fun r sF ⟨hr, IF⟩ => ?_
      subst hr
      have IG : Inv X pins σ HE sF := IC.call' (ch := fp) IF.os IF.base IF.hok IF.bare fun b hb => ⟨(fpC b hb).1.2.2.2.1, (fpC b hb).1.2.1, (fpC b hb).1.2.2.2.2.1, (fpC b hb).1.2.2.2.2.2⟩
      have nC : HE sC.heap.objs.size = none := by
        rw [← locC]
        exact IF.free
      obtain ⟨m, hm, _⟩ := IF.loc
      have hm : sF.heap.Ns ce.locals m := hm
      rw [locC] at hm
      exact fin D sC.heap.objs.size sF m HE IG qq hm (IC.fpOk (Nat.le_refl _) nC)
    · refine thnF (T.item (X.blk sC HC scope ce fp) rfl rfl rfl hc i [] sE _ HE (fun _ _ => False) IE (quiet IE nE) stE go) fun r sF ⟨u, hr, hF⟩ => ?_
      subst hr
      refine thnF hF fun _ sG ⟨x, HG, IG, rG, yG, stG, nG⟩ => ?_
      refine thnF (rg.run _ sG _ HG x u _ (IG.pinned (quiet IG nG) (T.obj _ _ stG)) rG (step x HG yG)) fun _ sH ⟨σH, HH, IH, wH, qH⟩ => ?_
      refine thnF (rt.run _ sH σH HH _ IH qH) fun b sI ⟨HI, II, qI⟩ => ?_
      have back : ∀ {s' : Shared} {H' : Hp}, Inv (X.blk sC HC scope ce fp) ([] ++ pinsAt fp sG.heap) σH H' s' → Nx H' → ∃ m, m < n ∧ ∃ i H', Inv (X.blk sC HC scope ce fp) [] (wipe σ (own.map (·.2))) H' s' ∧ tn i s'.heap ∧ (∀ b ∈ fp, H' b = none) ∧ W i m H' := fun {s' H'} I' nx => by
        obtain ⟨m', lt, w'⟩ := hNx H' nx
        have pin : ∀ b ∈ fp, ∀ o, sG.heap.get? b = some o → s'.heap.get? b = some o ∧ H' b = none := fun b hb o e => by
          obtain ⟨z1, z2, _⟩ := I'.pin (b, o) (List.mem_append_right _ (List.mem_append_right _ (mem_pinsAt hb e)))
          exact ⟨z1, z2⟩
        refine ⟨m', lt, i + 1, H', (I'.unpinned (pins := [])).weak (by rw [← wH, wipe_length]) (fun j v e => ?_), T.keep _ _ _ stG fun b hb o e => (pin b hb o e).1, fun b hb => ?_, w'⟩
        · rw [← wH] at e
          exact (wipe_some e).1
        · obtain ⟨o, e, _⟩ := T.obj _ _ stG b hb
          exact (pin b hb o e).2
      cases b with
      | false => exact back II (by simpa using qI)
      | true =>
        rw [if_pos rfl] at qI ⊢
        refine thnF (rk.run _ sI σH HI _ II qI) fun z sJ ⟨yk, HJ, IJ, rJ, qJ⟩ => ?_
        refine thnF (rv.run _ sJ σH HJ _ IJ qJ) fun z2 sK ⟨yv, HK, IK, rK, qK⟩ => ?_
        exact kd.run (X.blk sC HC scope ce fp) rfl rfl rfl rfl _ _ _ _ _ D yk yv z z2 Nx _ IK rJ rK qK fun H' s' I' nx => back I' nx
  exact codeAny_compStart_dict loop (T.self X.A 0 _ _ _ stD loop)
/-- name = {..} on one line, the name a local -/
theorem ps_setDcG {i : Nat} {y : Str} (hc : X.calm = true) (hN : X.N.Nodup) (hy : X.N[i]? = some y) (hyl : X.env.scope.names.lookup y = some .local)
    (hsw : swapsWith (.DictComp kx vx [⟨tg, iter, ifs, 0⟩] scope pos) (some (.Name y py)) spos.line X.env = pure true) (hi : PI X tg iter wi) (ok : BlkOk X.N X.env.scope scope own)
    (hg : ∀ (s : Shared) (H : Hp) (C : Addr) (cl : List (Str × Addr)) (fp : List Addr), PG (X.blk s H scope (compEnvC scope cl C X.env) fp) tg g) (ht : ∀ (s : Shared) (H : Hp) (C : Addr) (cl : List (Str × Addr)) (fp : List Addr), PTs (X.blk s H scope (compEnvC scope cl C X.env) fp) ifs tt)
    (hk : ∀ (s : Shared) (H : Hp) (C : Addr) (cl : List (Str × Addr)) (fp : List Addr), PE (X.blk s H scope (compEnvC scope cl C X.env) fp) kx tk)
    (he : ∀ (s : Shared) (H : Hp) (C : Addr) (cl : List (Str × Addr)) (fp : List Addr), PE (X.blk s H scope (compEnvC scope cl C X.env) fp) vx tv) (kd : DKd X.prog X.w X.K X.A) (hs : ∀ x, foldedSetIterable iter X.env x = pure x := by intro _; rfl) :
    PS X (.Assign [.Name y py] (.DictComp kx vx [⟨tg, iter, ifs, 0⟩] scope pos) spos) (tAsg (tDcG kd wi g tt tk tv (own.map (·.2))) (gName i)) := by
  refine ⟨fun pins s σ H D I h => ?_⟩
  rw [exec_Assign_Name_used _ _ _ _ hsw]
  refine wpAny_bind (wpAny_standAt (wpAny_bind ?_))
  show wpAny _ X.A (do let _ ← comprehension (.DictComp kx vx [⟨tg, iter, ifs, 0⟩] scope pos) scope X.env (firstIterPos [⟨tg, iter, ifs, 0⟩] pos) newDict false (eval iter X.env) (some (assign (.Name y py) X.env))) _ _ s
  have h' : tDcG kd wi g tt tk tv (own.map (·.2)) σ H (fun x H1 => gName i x σ H1 D.nx) := h
  refine wpAny_bind (thn (dcg_core (Qf := fun _ s' => SP X pins D .next s') hc hN I hi ok hg ht hk he hs h' fun L C s' m H' I' q hm ⟨f0, f1, f2, f3, f4, f5⟩ => ?_) fun _ s' hq => wpAny_pure (wpAny_pure hq))
  show wpAny _ _ (assign (.Name y py) X.env (.ref L)) _ _ _
  refine wpAny_assign_Name (store_ok2 (v := V.ref L) I' hN hy (.inl hyl) rfl (fun s2 I2 ⟨a, sb, ha⟩ => ?_) (.inr hyl))
  refine ⟨m, hm.sameBut sb (ha.elim (fun z => by rw [z]; exact f1) fun z e => f4 y a z e.symm), fun h3 sb3 => ?_⟩
  exact ⟨_, H', I2.turned (t' := s2.toks) (fun b o hb e => (sb3.2 b hb).trans e) f0 f1 f3 f4 f5, q⟩
theorem sw_trueD {gs : List Comprehension} {y : Str} {l : Nat} {env : Env} (hk : env.scope.kind = .function) (hy : env.scope.names.lookup y = some .local) (hl : (py.line == pos.line) = true)
    (ha : (scope.names.any fun (n, k) => n == y && (k == .local || k == .cell)) = false) : swapsWith (.DictComp kx vx gs scope pos) (some (.Name y py)) l env = pure true := by
  have ky : env.kindOf y = some .local := hy
  have hb : env.blockKind = .function := by unfold Env.blockKind; rw [hk]; rfl
  unfold swapsWith
  simp only [hb, ky, ha, Expr.pos, hl]
  rfl
end
/-- over given values: Pv by the turn and the heap -/
theorem dcg_walk {P : Program} {w : World} {K : PySem.W.Frag} {A : Around} {kd : DKd P w K A} {J : It} {xs : List V} {g : TG} {tt : TT} {tk tv : TE} {vs : List Nat} {σ : L2.St} {H1 : Hp} {D : Addr} {Qd : Hp → Prop} (Pv : Nat → Hp → Prop) (h0 : Pv 0 (upd H1 D (kd.emp D)))
    (hgo : ∀ i H, i < xs.length → Pv i H → J.go i H) (hst : ∀ H, Pv xs.length H → J.stop xs.length H) (hy : ∀ i H x H', Pv i H → J.yld i H x H' → xs[i]? = some x ∧ H' = H)
    (hs : ∀ i x H, xs[i]? = some x → Pv i H → g x (wipe σ vs) H fun σ2 H2 => wipe σ2 vs = wipe σ vs ∧ tt σ2 H2 fun b H3 =>
      if b = true then tk σ2 H3 fun y H4 => tv σ2 H4 fun z H5 => kd.put y z D H5 (Pv (i + 1)) else Pv (i + 1) H3) (hd : ∀ H, Pv xs.length H → Qd H) :
    ∃ W : Nat → Nat → Hp → Prop, (∃ m, W 0 m (upd H1 D (kd.emp D))) ∧ ∀ i m H, W i m H →
      (J.stop i H ∧ Qd H) ∨ (J.go i H ∧ ∃ Nx : Hp → Prop, (∀ H', Nx H' → ∃ m', m' < m ∧ W (i + 1) m' H') ∧ ∀ x H', J.yld i H x H' → g x (wipe σ vs) H' fun σ2 H2 => wipe σ2 vs = wipe σ vs ∧ tt σ2 H2 fun b H3 =>
        if b = true then tk σ2 H3 fun y H4 => tv σ2 H4 fun z H5 => kd.put y z D H5 Nx else Nx H3) := by
  refine ⟨fun i m H => m = xs.length - i ∧ i ≤ xs.length ∧ Pv i H, ⟨xs.length, by simp, Nat.zero_le _, h0⟩, fun i m H ⟨em, hi, p⟩ => ?_⟩
  by_cases lt : i < xs.length
  · refine .inr ⟨hgo i H lt p, Pv (i + 1), fun H' p' => ⟨xs.length - (i + 1), by omega, rfl, lt, p'⟩, fun x H' y => ?_⟩
    obtain ⟨e1, rfl⟩ := hy i H x H' p y
    exact hs i x _ e1 p
  · have e : i = xs.length := by omega
    subst e
    exact .inl ⟨hst H p, hd H p⟩
end CW

set_option maxRecDepth 100000
set_option maxHeartbeats 4000000
/-! Dicts in the typed environment. -/
namespace CW
open PySem PySem.Spec PyProof.Rows L2
open C8 (Cal Met Mak pe_c pe_mk pe_mt pe_mt0)
abbrev KD : Type := List (Key × PyData)
def dval (kvs : KD) (k : Key) : Option PyData := (kvs.find? fun kv => decide (kv.1 = k)).map (·.2)
def dput (kvs : KD) (k : Key) (d : PyData) : KD := if (dval kvs k).isSome = true then kvs.map (fun kv => if kv.1 = k then (kv.1, d) else kv) else kvs ++ [(k, d)]
section
variable {K : PySem.W.Frag} {H : Hp}
theorem dk_val {k : Key} : ∀ {ws : List (Key × V)} {kvs : KD}, DkOk K H ws kvs → (∀ d, dval kvs k = some d → ∃ v, valV ws k = some v ∧ Td K H v d) ∧ (dval kvs k = none → valV ws k = none)
  | _, _, .nil => ⟨fun d e => (by cases e), fun _ => rfl⟩
  | w :: ws, kv :: kvs, .cons h t => by
    obtain ⟨i1, i2⟩ := dk_val (k := k) t
    obtain ⟨h1, h2⟩ := h
    by_cases e : w.1 = k
    · have e' : kv.1 = k := h1.symm.trans e
      refine ⟨fun d q => ⟨w.2, valV_pos e, ?_⟩, fun q => ?_⟩
      · have : dval (kv :: kvs) k = some kv.2 := by simp [dval, List.find?_cons, e']
        rw [this] at q
        rw [← Option.some.inj q]
        exact h2
      · have : dval (kv :: kvs) k = some kv.2 := by simp [dval, List.find?_cons, e']
        rw [this] at q
        cases q
    · have e' : ¬ kv.1 = k := fun z => e (h1.trans z)
      have : dval (kv :: kvs) k = dval kvs k := by simp [dval, List.find?_cons, e']
      rw [this, valV_neg e]
      exact ⟨i1, i2⟩
theorem dk_some {k : Key} {ws : List (Key × V)} {kvs : KD} (h : DkOk K H ws kvs) : (valV ws k).isSome = (dval kvs k).isSome := by
  obtain ⟨i1, i2⟩ := dk_val (k := k) h
  cases q : dval kvs k with
  | none => rw [i2 q]; rfl
  | some d =>
    obtain ⟨v, e, _⟩ := i1 d q
    rw [e]; rfl
theorem dk_put1 {k : Key} {v : V} {d : PyData} (hv : Td K H v d) : ∀ {ws : List (Key × V)} {kvs : KD}, DkOk K H ws kvs → DkOk K H (ws.map fun kv => if kv.1 = k then (kv.1, v) else kv) (kvs.map fun kv => if kv.1 = k then (kv.1, d) else kv)
  | _, _, .nil => .nil
  | w :: ws, kv :: kvs, .cons h t => by
    refine .cons ?_ (dk_put1 hv t)
    obtain ⟨h1, h2⟩ := h
    show (if w.1 = k then (w.1, v) else w).1 = (if kv.1 = k then (kv.1, d) else kv).1 ∧ Td K H (if w.1 = k then (w.1, v) else w).2 (if kv.1 = k then (kv.1, d) else kv).2
    by_cases e : w.1 = k
    · rw [if_pos e, if_pos (h1.symm.trans e)]; exact ⟨h1, hv⟩
    · rw [if_neg e, if_neg (fun z => e (h1.trans z))]; exact ⟨h1, h2⟩
theorem dk_snoc {k : Key} {v : V} {d : PyData} (hv : Td K H v d) : ∀ {ws : List (Key × V)} {kvs : KD}, DkOk K H ws kvs → DkOk K H (ws ++ [(k, v)]) (kvs ++ [(k, d)])
  | _, _, .nil => .cons ⟨rfl, hv⟩ .nil
  | _, _, .cons h t => .cons h (dk_snoc hv t)
theorem dk_put {k : Key} {v : V} {d : PyData} {ws : List (Key × V)} {kvs : KD} (hv : Td K H v d) (h : DkOk K H ws kvs) : DkOk K H (putK ws k v) (dput kvs k d) := by
  unfold putK dput
  rw [valV_any, dk_some h]
  split
  · exact dk_put1 hv h
  · exact dk_snoc hv h
theorem DkOk.len {ws : List (Key × V)} {kvs : KD} (h : DkOk K H ws kvs) : ws.length = kvs.length := Paired.length h
theorem DkOk.keys : ∀ {ws : List (Key × V)} {kvs : KD}, DkOk K H ws kvs → ws.map (·.1) = kvs.map (·.1)
  | _, _, .nil => rfl
  | _, _, .cons h t => by rw [List.map_cons, List.map_cons, h.1, DkOk.keys t]
theorem dput_len (kvs : KD) (k : Key) (d : PyData) : (dput kvs k d).length ≤ kvs.length + 1 := by
  unfold dput
  split
  · rw [List.length_map]; omega
  · rw [List.length_append]; exact Nat.le_refl _
end
/-- a dict with ints for keys, as it comes to be -/
def dofI (ps : List (Int × PyData)) : KD := ps.foldl (fun m p => dput m (.inl p.1) p.2) []
theorem dofI_len : ∀ (ps : List (Int × PyData)) (m : KD), (ps.foldl (fun m p => dput m (.inl p.1) p.2) m).length ≤ m.length + ps.length
  | [], m => Nat.le_refl _
  | p :: ps, m => by
    refine Nat.le_trans (dofI_len ps (dput m (.inl p.1) p.2)) ?_
    have h : (dput m (.inl p.1) p.2).length ≤ m.length + 1 := dput_len m (.inl p.1) p.2
    rw [List.length_cons]
    omega
section
variable {K : PySem.W.Frag}
/-- what makes an object of its own -/
def EW (te : TE) (σ : L2.St) (H : Hp) (c : Ct) : Prop := ∀ H1, Same H H1 → ∀ Q : VK, (∀ p o H2, H1 p = none → Same H1 H2 → H2 p = some o → CtOk K H2 c o → Q (.ref p) H2) → te σ H1 Q
def spW (K : PySem.W.Frag) (P : List Ar → Ct → Prop) : Sp := fun vs H Q _ => ∃ as c, Ars K H vs as ∧ P as c ∧ ∀ p o H', H p = none → Same H H' → H' p = some o → CtOk K H' c o → Q (.ref p) H'
end
section
variable {K : PySem.W.Frag} {H0 Hk H H' : Hp} {σ : L2.St} {Γ : List Sl} {te ta tb tc td ty tv tk : TE} {tr : TA} {tt tu : TT} {d e x : PyData} {ds es : List PyData} {b b' : Bool} {a a' : Ar} {as : List Ar} {i j : Nat} {n m : Int} {kvs : KD} {p : Addr} {c : Ct} {D : Ends}
theorem ew_call {P : List Ar → Ct → Prop} {E : XK} (h : EA K tr σ H as) (p : P as c) : EW (K := K) (tCall (spW K P) [] E tr) σ H c := fun H1 e Q k =>
  h H1 e _ fun vs H2 e2 h2 => ⟨as, c, by rw [List.append_nil]; exact h2, p, fun q o H' hq e3 h3 h4 => k q o H' (e2.free hq) (e2.trans e3) h3 h4⟩
theorem ew_nil : EW (K := K) tDNewK σ H (.dk []) := fun H1 e Q k p hp => k p _ _ hp (same_upd hp) upd_same ⟨[], rfl, .nil⟩
theorem s_setW (R : Rel K H0 Hk H σ Γ) (h : EW (K := K) te σ H c) (k : ∀ p σ' H', Same H H' → Rel K H0 Hk H' σ' (Γ.set i (Sl.w p c)) → D.nx σ' H') : tAsg te (gName i) D σ H :=
  h H (.refl _) _ fun p o H2 hp e2 h2 h3 => k p _ H2 e2 (R.set_w i e2 hp h2 h3)
theorem s_retWc {Q : VK} {nx bk ct : L2.St → Hp → Prop} (R : Rel K H0 Hk H σ Γ) (h : Γ[i]? = some (Sl.w p c)) (k : ∀ p o H', H0 p = none → Same H0 H' → H' p = some o → CtOk K H' c o → Q (.ref p) H') : tRet (tVar i) ⟨nx, Q, bk, ct⟩ σ H := by
  obtain ⟨h1, h2, o, h3, h5⟩ := R.sl i _ h
  exact ⟨_, h1, k p o H h2 R.base h3 h5⟩
/-- the dict at slot i, whatever holds it -/
structure IsDk (K : PySem.W.Frag) (H : Hp) (te : TE) (σ : L2.St) (kvs : KD) : Prop where
  run : ∀ H1, Same H H1 → ∀ Q : VK, (∀ p ws, Rd H1 p (.dK ws) → DkOk K H1 ws kvs → Q (.ref p) H1) → te σ H1 Q
theorem Rd.sm {u : HO} (e : Same H H') (h : Rd H p u) : Rd H' p u := h.elim (fun h => .inl (e _ _ h)) fun ⟨o, h⟩ => .inr ⟨o, e _ _ h⟩
theorem dk_w (R : Rel K H0 Hk H σ Γ) (h : Γ[i]? = some (Sl.w p (.dk kvs))) : IsDk K H (tVar i) σ kvs := ⟨fun H1 e Q k => by
  obtain ⟨h1, _, o, h3, ws, rfl, h5⟩ := R.sl i _ h
  exact ⟨_, h1, k p ws (.inl (e _ _ h3)) (h5.k (keep_same e))⟩⟩
/-- a dict that a loop walks -/
def frzOf (od : Obj) (ws : List (Key × V)) (kvs : KD) : Ct := .raw (.frz od (.dK ws)) ((ws.map (·.2)).zip (kvs.map (·.2)))
theorem dk_zip {K : PySem.W.Frag} {H : Hp} : ∀ {ws : List (Key × V)} {kvs : KD}, DkOk K H ws kvs → ∀ t ∈ (ws.map (·.2)).zip (kvs.map (·.2)), Td K H t.1 t.2
  | _, _, .nil, t, ht => by cases ht
  | _, _, .cons h r, t, ht => by
    rcases List.mem_cons.mp ht with rfl | ht
    · exact h.2
    · exact dk_zip r t ht
theorem dk_unzip {K : PySem.W.Frag} {H : Hp} : ∀ {ws : List (Key × V)} {kvs : KD}, ws.map (·.1) = kvs.map (·.1) → (∀ t ∈ (ws.map (·.2)).zip (kvs.map (·.2)), Td K H t.1 t.2) → DkOk K H ws kvs
  | [], [], _, _ => .nil
  | [], _ :: _, e, _ => by simp at e
  | _ :: _, [], e, _ => by simp at e
  | w :: ws, kv :: kvs, e, h => by
    rw [List.map_cons, List.map_cons] at e
    injection e with e1 e2
    exact .cons ⟨e1, h (w.2, kv.2) List.mem_cons_self⟩ (dk_unzip e2 fun t ht => h t (List.mem_cons_of_mem _ ht))
theorem dk_frz {od : Obj} {ws : List (Key × V)} (R : Rel K H0 Hk H σ Γ) (h : Γ[i]? = some (Sl.w p (frzOf od ws kvs))) (e : ws.map (·.1) = kvs.map (·.1)) : IsDk K H (tVar i) σ kvs := ⟨fun H1 e' Q k => by
  obtain ⟨h1, _, o, h3, rfl, h5, h6⟩ := R.sl i _ h
  exact ⟨_, h1, k p ws (.inr ⟨od, e' _ _ h3⟩) ((dk_unzip e h6).k (keep_same e'))⟩⟩
theorem et_din (hy : ET K ty σ H (.int n)) (hd : IsDk K H td σ kvs) : ET K (tDIn ty td) σ H (.bool (dval kvs (.inl n)).isSome) := fun H1 e Q k =>
  hy H1 e _ fun v H2 e2 h2 => (hd.run H2 (e.trans e2) _ fun p ws h3 h4 => ⟨p, valV ws (.inl n), rfl, .inl ⟨ws, .inl n, h3, h2.i, rfl⟩, by rw [dk_some h4]; exact k _ H2 e2 (.bl _)⟩)
theorem et_dnin (hy : ET K ty σ H (.int n)) (hd : IsDk K H td σ kvs) : ET K (tDNotIn ty td) σ H (.bool (!(dval kvs (.inl n)).isSome)) := fun H1 e Q k =>
  hy H1 e _ fun v H2 e2 h2 => (hd.run H2 (e.trans e2) _ fun p ws h3 h4 => ⟨p, valV ws (.inl n), rfl, .inl ⟨ws, .inl n, h3, h2.i, rfl⟩, by rw [dk_some h4]; exact k _ H2 e2 (.bl _)⟩)
theorem et_dget (hd : IsDk K H td σ kvs) (hs : ∀ H1, Same H H1 → IsDk K H1 td σ kvs) (hy : ET K ty σ H (.int n)) (hv : dval kvs (.inl n) = some d) : ET K (tDGet td ty) σ H d := fun H1 e Q k =>
  hd.run H1 e _ fun p ws h3 h4 => hy H1 e _ fun v H2 e2 h2 => by
    obtain ⟨w, hw, tw⟩ := (dk_val (k := .inl n) (h4.k (keep_same e2))).1 d hv
    exact ⟨p, w, rfl, .inl ⟨ws, .inl n, Rd.sm e2 h3, h2.i, hw.symm⟩, k _ H2 e2 tw⟩
/-- d[k] = v, d our own -/
theorem s_dput (R : Rel K H0 Hk H σ Γ) (h : Γ[i]? = some (Sl.w p (.dk kvs))) (hv : ET K tv σ H d) (hy : ∀ H', Rel K H0 Hk H' σ Γ → Same H H' → ET K ty σ H' (.int n)) (hz : kvs.length ≤ 100000) (k : ∀ H', Rel K H0 Hk H' σ (Γ.set i (Sl.w p (.dk (dput kvs (.inl n) d)))) → D.nx σ H') : sDPut (tVar i) ty tv D σ H :=
  hv H (.refl _) _ fun v H2 e2 h2 => by
    have R2 := R.same e2
    obtain ⟨q1, q2, o, q3, ws, rfl, q5⟩ := R2.sl i _ h
    refine ⟨_, q1, hy H2 R2 e2 H2 (.refl _) _ fun y H3 e3 h3 => ?_⟩
    have R3 := R2.same e3
    have hl : ws.length < sizeLine := by rw [q5.len]; exact Nat.lt_of_le_of_lt hz (by decide)
    refine ⟨p, _, rfl, .inl ⟨ws, .inl n, e3 _ _ q3, h3.i, hl, rfl⟩, k _ ?_⟩
    exact R3.mut h ⟨_, rfl, dk_put (h2.same e3) (q5.k (keep_same e3))⟩
end
end CW

set_option maxRecDepth 100000
set_option maxHeartbeats 4000000
/-! Dict comprehensions, sorted, list over dicts, in the typed environment. -/
namespace CW
open PySem PySem.Spec PyProof.Rows L2
open C8 (Cal Met Mak pe_c pe_mk pe_mt pe_mt0)
/-- ascending -/
def sortI (ns : List Int) : List Int := ns.mergeSort fun a b => decide (a ≤ b)
theorem sortI_perm (ns : List Int) : (sortI ns).Perm ns := List.mergeSort_perm _ _
theorem sortI_pw (ns : List Int) : (sortI ns).Pairwise (· ≤ ·) := by
  have h := List.pairwise_mergeSort (le := fun a b : Int => decide (a ≤ b)) (fun a b c h1 h2 => by simp at *; omega) (fun a b => by simp; omega) ns
  exact h.imp fun h => by simpa using h
theorem sortI_of {ns ys : List Int} (h : ys.Perm ns) (hp : ys.Pairwise (· ≤ ·)) : ys = sortI ns :=
  List.Perm.eq_of_pairwise (fun a b _ _ h1 h2 => by omega) hp (sortI_pw ns) (h.trans (sortI_perm ns).symm)
section
variable {α : Type} {K : PySem.W.Frag} {P : Program} {w : World} {A : Around} {H0 Hk H H' : Hp} {σ : L2.St} {Γ : List Sl} {te ta tb tc td ty tv tk tl : TE} {tr : TA} {tt tu : TT} {d e x : PyData} {ds es : List PyData} {b b' : Bool} {a a' : Ar} {as : List Ar} {i j : Nat} {n m : Int} {kvs : KD} {p : Addr} {c : Ct} {D : Ends} {xs : List α} {enc : α → PyData} {kf : α → Int} {vf : α → PyData}
/-- what the walk of a dict comprehension leaves -/
theorem dc_steps {vs : List V} {H1 : Hp} {L : Addr} (R : Rel K H0 Hk H σ Γ) (e1 : Same H H1) (hx : TdAll K H1 vs (xs.map enc)) (hz : xs.length ≤ 100000) (hL : H1 L = none)
    (el : ∀ (n : Nat) (x : α), xs[n]? = some x → ∀ σ' H', Rel K H0 Hk H' σ' (Γ.set i (.t (enc x))) → Same H H' → ET K tk σ' H' (.int (kf x)) ∧ ET K tv σ' H' (vf x)) :
    ∃ Pv : Nat → Hp → Prop, Pv 0 (upd H1 L (.dK [])) ∧ (∀ n H', Pv n H' → Same H1 H') ∧
      (∀ n x H', vs[n]? = some x → Pv n H' → gName i x (wipe σ [i]) H' fun σ2 H2 => wipe σ2 [i] = wipe σ [i] ∧ tYes σ2 H2 fun b H3 =>
        if b = true then tk σ2 H3 fun y H4 => tv σ2 H4 fun z H5 => (dkInt P w K A).put y z L H5 (Pv (n + 1)) else Pv (n + 1) H3) ∧
      (∀ H', Pv vs.length H' → ∃ ws, H' L = some (.dK ws) ∧ DkOk K H' ws (dofI (xs.map fun x => (kf x, vf x))) ∧ Same H1 H') := by
  refine ⟨fun n H' => Same H1 H' ∧ ∃ ws, H' L = some (.dK ws) ∧ DkOk K H' ws (dofI ((xs.take n).map fun x => (kf x, vf x))), ⟨same_upd hL, [], upd_same, .nil⟩, fun n H' h => h.1, fun n v H' hn ⟨e2, ws, hws, tws⟩ => ?_, fun H' ⟨e2, ws, hws, tws⟩ => ?_⟩
  · obtain ⟨d, hd0, td⟩ := hx.get' hn
    obtain ⟨x, hd, rfl⟩ := map_get hd0
    have R2 : Rel K H0 Hk H' (σ.set i (some v)) (Γ.set i (.t (enc x))) := (R.same (e1.trans e2)).set_t i (td.same e2)
    obtain ⟨h1, h2⟩ := el n x hd _ H' R2 (e1.trans e2)
    have et : dofI ((xs.take (n + 1)).map fun x => (kf x, vf x)) = dput (dofI ((xs.take n).map fun x => (kf x, vf x))) (.inl (kf x)) (vf x) := by
      rw [List.take_add_one, hd, List.map_append]
      unfold dofI
      rw [List.foldl_append]
      rfl
    have hla : ws.length < sizeLine := by
      rw [tws.len]
      refine Nat.lt_of_le_of_lt (dofI_len _ []) ?_
      rw [List.length_map, List.length_take]
      have : (100000 : Nat) < sizeLine := by decide
      simp
      omega
    show wipe ((wipe σ [i]).set i (some v)) [i] = wipe σ [i] ∧ _
    rw [wipe1]
    refine ⟨wipe2 _ _ _, ?_⟩
    refine eb_yes H' (.refl _) _ fun Hy ey => ?_
    rw [if_pos rfl]
    refine h1 Hy ey _ fun y H3 e3' h3 => h2 H3 (ey.trans e3') _ fun z H4 e4 h4 => ?_
    have e3 := ey.trans e3'
    have hw4 : H4 L = some (.dK ws) := e4 _ _ (e3 _ _ hws)
    refine ⟨ws, .inl (kf x), h3.i, hw4, hla, same_mut ((e2.trans e3).trans e4) hL, _, upd_same, ?_⟩
    rw [et]
    refine DkOk.k (keep_upd fun ys z => ?_) (dk_put h4 ((tws.k (keep_same e3)).k (keep_same e4)))
    rw [hw4] at z
    cases z
  · rw [hx.length, List.length_map, List.take_length] at tws
    exact ⟨ws, hws, tws, e2⟩
theorem s_dcL {R' : Prop} (R : Rel K H0 Hk H σ Γ) (hs : E1 K tl σ H (.l (xs.map enc))) (hz : xs.length ≤ 100000)
    (el : ∀ (n : Nat) (x : α), xs[n]? = some x → ∀ σ' H', Rel K H0 Hk H' σ' (Γ.set i (.t (enc x))) → Same H H' → ET K tk σ' H' (.int (kf x)) ∧ ET K tv σ' H' (vf x))
    (k : ∀ p σ' H', Same H H' → Rel K H0 Hk H' σ' (Γ.set j (Sl.w p (.dk (dofI (xs.map fun x => (kf x, vf x)))))) → D.nx σ' H') :
    tAsg (tDcG (dkInt P w K A) (iList K tl) (gName i) tYes tk tv [i]) (gName j) D σ H :=
  hs H (.refl _) _ fun v H1 e1 h1 => by
    obtain ⟨a, vs, rfl, t, q⟩ := h1
    refine ⟨a, rfl, ⟨vs, t⟩, fun L hL => ?_⟩
    obtain ⟨Pv, g0, g1, g2, g3⟩ := dc_steps (P := P) (w := w) (A := A) (H1 := H1) R e1 q hz hL el
    refine dcg_walk (kd := dkInt P w K A) (xs := vs) Pv g0 (fun n H' hn h => ⟨vs, vs[n], Same.seq (g1 n H' h) t, List.getElem?_eq_getElem hn⟩) (fun H' h => ⟨vs, Same.seq (g1 _ H' h) t, Nat.le_refl _⟩) (fun n H' x H'' h y => ⟨y.2 vs (Same.seq (g1 n H' h) t), y.1⟩) g2 fun H' h => ?_
    obtain ⟨ws, k1, k2, k3⟩ := g3 H' h
    exact k L _ H' (e1.trans k3) (R.set_w j (e1.trans k3) (e1.free hL) k1 ⟨ws, rfl, k2⟩)
theorem s_dcT (R : Rel K H0 Hk H σ Γ) (hs : ET K tl σ H (.tuple (xs.map enc))) (hz : xs.length ≤ 100000)
    (el : ∀ (n : Nat) (x : α), xs[n]? = some x → ∀ σ' H', Rel K H0 Hk H' σ' (Γ.set i (.t (enc x))) → Same H H' → ET K tk σ' H' (.int (kf x)) ∧ ET K tv σ' H' (vf x))
    (k : ∀ p σ' H', Same H H' → Rel K H0 Hk H' σ' (Γ.set j (Sl.w p (.dk (dofI (xs.map fun x => (kf x, vf x)))))) → D.nx σ' H') :
    tAsg (tDcG (dkInt P w K A) (iTup K tl) (gName i) tYes tk tv [i]) (gName j) D σ H :=
  hs H (.refl _) _ fun v H1 e1 h1 => by
    obtain ⟨a, vs, rfl, t, q⟩ := h1.t
    refine ⟨a, rfl, ⟨vs, t.sq⟩, fun L hL => ?_⟩
    obtain ⟨Pv, g0, g1, g2, g3⟩ := dc_steps (P := P) (w := w) (A := A) (H1 := H1) R e1 q hz hL el
    have tk' : ∀ n H', Pv n H' → SqT K H' a vs := fun n H' h => (t.keep (keep_same (g1 n H' h))).sq
    refine dcg_walk (kd := dkInt P w K A) (xs := vs) Pv g0 (fun n H' hn h => ⟨vs, vs[n], tk' n H' h, List.getElem?_eq_getElem hn⟩) (fun H' h => ⟨vs, tk' _ H' h, Nat.le_refl _⟩) (fun n H' x H'' h y => ⟨y.2 vs (tk' n H' h), y.1⟩) g2 fun H' h => ?_
    obtain ⟨ws, k1, k2, k3⟩ := g3 H' h
    exact k L _ H' (e1.trans k3) (R.set_w j (e1.trans k3) (e1.free hL) k1 ⟨ws, rfl, k2⟩)
/-! ### nested keys -/
def ndCt (P : Program) (w : World) (p : Addr) (es : List NdE) : Ct := .raw (NdO P w p es) (es.map fun e => (.ref e.2.1, e.1))
theorem nd_keysOf {H : Hp} {es : List NdE} (h : ∀ t ∈ es.map (fun e => ((.ref e.2.1 : V), e.1)), Td K H t.1 t.2) (hd : ∀ e ∈ es, (nk e.1).depth ≤ 8) : NdKeys K H es := fun e he => ⟨h _ (List.mem_map.mpr ⟨e, he, rfl⟩), hd e he⟩
theorem ndGet_enc [BEq α] [LawfulBEq α] (hinj : ∀ x y : α, nk (enc x) = nk (enc y) → x = y) : ∀ {es : List NdE} {ys : List α} (x : α), es.map (·.1) = ys.map enc → (ndGet es (enc x)).isSome = ys.contains x
  | [], [], x, _ => rfl
  | [], _ :: _, _, h => by simp at h
  | _ :: _, [], _, h => by simp at h
  | e :: es, y :: ys, x, h => by
    rw [List.map_cons, List.map_cons] at h
    injection h with h1 h2
    have ih := ndGet_enc hinj x h2
    unfold ndGet at ih ⊢
    rw [List.find?_cons, List.contains_cons]
    by_cases q : x = y
    · subst q
      rw [h1, decide_eq_true rfl]
      simp
    · have : ¬ nk e.1 = nk (enc x) := fun z => q (by rw [h1] at z; exact (hinj _ _ z).symm)
      rw [decide_eq_false this]
      have hb : (x == y) = false := by simpa using q
      rw [hb, Bool.false_or]
      exact ih
theorem ndPut_enc [BEq α] [LawfulBEq α] (hinj : ∀ x y : α, nk (enc x) = nk (enc y) → x = y) {es : List NdE} {ys : List α} {x : α} {q : Addr} {v : V} (h : es.map (·.1) = ys.map enc) : (ndPut es (enc x) q v).map (·.1) = (if ys.contains x then ys else ys ++ [x]).map enc := by
  unfold ndPut
  rw [ndGet_enc hinj x h]
  cases ys.contains x with
  | true =>
    rw [if_pos rfl, if_pos rfl, List.map_map, ← h]
    refine List.map_congr_left fun e _ => ?_
    show (if nk e.1 = nk (enc x) then (e.1, e.2.1, v) else e).1 = e.1
    split <;> rfl
  | false =>
    rw [if_neg Bool.false_ne_true, if_neg Bool.false_ne_true, List.map_append, List.map_append, h]
    rfl
theorem dedup_snoc [BEq α] (x : α) : ∀ (ys acc : List α), dedup acc (ys ++ [x]) = if (dedup acc ys).contains x then dedup acc ys else dedup acc ys ++ [x]
  | [], acc => rfl
  | y :: ys, acc => dedup_snoc x ys _
theorem s_dcN [BEq α] [LawfulBEq α] {hu : A.units + 64 < cLine} (R : Rel K H0 Hk H σ Γ) (hs : E1 K tl σ H (.l (xs.map enc))) (hz : xs.length ≤ 100000) (hinj : ∀ x y : α, nk (enc x) = nk (enc y) → x = y) (hdp : ∀ x : α, (nk (enc x)).depth ≤ 8) (hrf : ∀ x : α, ∃ ds, enc x = .tuple ds)
    (el : ∀ (n : Nat) (x : α), xs[n]? = some x → ∀ σ' H', Rel K H0 Hk H' σ' (Γ.set i (.t (enc x))) → Same H H' → ET K tk σ' H' (enc x) ∧ ET K tv σ' H' (vf x))
    (k : ∀ p σ' H' es, Same H H' → es.map (·.1) = (dedup [] xs).map enc → Rel K H0 Hk H' σ' (Γ.set j (Sl.w p (ndCt P w p es))) → D.nx σ' H') :
    tAsg (tDcG (dkNd P w K A hu) (iList K tl) (gName i) tYes tk tv [i]) (gName j) D σ H :=
  hs H (.refl _) _ fun v H1 e1 h1 => by
    obtain ⟨a, vs, rfl, t, q⟩ := h1
    refine ⟨a, rfl, ⟨vs, t⟩, fun L hL => ?_⟩
    have hde : ∀ (es : List NdE) (ys : List α), es.map (·.1) = ys.map enc → ∀ e ∈ es, (nk e.1).depth ≤ 8 := fun es ys h e he => by
      have : e.1 ∈ es.map (·.1) := List.mem_map.mpr ⟨e, he, rfl⟩
      rw [h] at this
      obtain ⟨y, _, ey⟩ := List.mem_map.mp this
      rw [← ey]
      exact hdp y
    refine dcg_walk (kd := dkNd P w K A hu) (xs := vs) (fun n H' => Same H1 H' ∧ ∃ es, H' L = some (NdO P w L es) ∧ NdKeys K H' es ∧ es.map (·.1) = (dedup [] (xs.take n)).map enc ∧ es.length ≤ n)
      ⟨same_upd hL, [], upd_same, fun e he => (by cases he), rfl, Nat.zero_le _⟩ (fun n H' hn h => ⟨vs, vs[n], Same.seq h.1 t, List.getElem?_eq_getElem hn⟩) (fun H' h => ⟨vs, Same.seq h.1 t, Nat.le_refl _⟩) (fun n H' x H'' h y => ⟨y.2 vs (Same.seq h.1 t), y.1⟩) (fun n v H' hn ⟨e2, es, hes, hks, hde2, hlen⟩ => ?_) fun H' ⟨e2, es, hes, hks, hde2, _⟩ => ?_
    · obtain ⟨d, hd0, td⟩ := q.get' hn
      obtain ⟨x, hd, rfl⟩ := map_get hd0
      have R2 : Rel K H0 Hk H' (σ.set i (some v)) (Γ.set i (.t (enc x))) := (R.same (e1.trans e2)).set_t i (td.same e2)
      obtain ⟨h1, h2⟩ := el n x hd _ H' R2 (e1.trans e2)
      show wipe ((wipe σ [i]).set i (some v)) [i] = wipe σ [i] ∧ _
      rw [wipe1]
      refine ⟨wipe2 _ _ _, ?_⟩
      refine eb_yes H' (.refl _) _ fun Hy ey => ?_
      rw [if_pos rfl]
      refine h1 Hy ey _ fun y H3 e3' h3 => h2 H3 (ey.trans e3') _ fun z H4 e4 h4 => ?_
      have e3 := ey.trans e3'
      have hw4 : H4 L = some (NdO P w L es) := e4 _ _ (e3 _ _ hes)
      obtain ⟨dd, hdd⟩ := hrf x
      obtain ⟨b, ys, rfl, _, _⟩ := (hdd ▸ h3.same e4).t
      have tb : Td K H4 (.ref b) (enc x) := h3.same e4
      have hk4 : NdKeys K H4 es := (hks.k (keep_same e3)).k (keep_same e4)
      have nt : Keep H4 (upd H4 L (NdO P w L (ndPut es (enc x) b z))) := keep_upd fun ys zz => by
        rw [hw4] at zz
        exact nd_nt ys (Option.some.inj zz)
      have hn' : n < xs.length := by
        have := (List.getElem?_eq_some_iff.mp hd).1
        exact this
      refine ⟨es, b, enc x, rfl, hw4, hk4, tb, hdp x, Nat.le_trans hlen (Nat.le_trans (Nat.le_of_lt hn') hz), same_mut ((e2.trans e3).trans e4) hL, _, upd_same, (nd_keysPut hk4 tb (hdp x)).k nt, ?_, Nat.le_trans (ndPut_len _ _ _ _) (Nat.succ_le_succ hlen)⟩
      rw [ndPut_enc hinj hde2, List.take_add_one, hd]
      show _ = (dedup [] (xs.take n ++ [x])).map enc
      rw [dedup_snoc]
    · rw [q.length, List.length_map, List.take_length] at hde2
      refine k L _ H' es (e1.trans e2) hde2 (R.set_w j (e1.trans e2) (e1.free hL) hes ⟨rfl, nd_nt, fun t ht => ?_⟩)
      obtain ⟨e, he, rfl⟩ := List.mem_map.mp ht
      exact (hks e he).1
/-! ### sorted(d), sorted(d, key=f), list(d) -/
theorem el_sortKN {Pf : List Ar → PyData → Prop} {key : α → PyData} {es : List NdE} (R : Rel K H0 Hk H σ Γ) (h : Γ[i]? = some (Sl.w p (ndCt P w p es))) (he : es.map (·.1) = xs.map enc) (hz : xs.length ≤ 100000) (hdp : ∀ x : α, (nk (enc x)).depth ≤ 8) (hal : PySem.W.AllAlike (xs.map key)) (hsk : ∀ x ∈ xs, ∃ ds, key x = .tuple ds) (hd : ∀ x ∈ xs, (key x).depth ≤ 8) (hf : ∀ x ∈ xs, Pf [.t (enc x)] (key x)) :
    EL K (tSortK K P w (spT K Pf) (tVar i)) σ H ((xs.mergeSort (PySem.W.dataLe false key)).map enc) := fun H1 q Q k => by
  obtain ⟨h1, _, o, h3, rfl, h5, h6⟩ := (R.same q).sl i _ h
  refine ⟨_, h1, p, α, enc, key, xs, rfl, .nd es h3 (nd_keysOf h6 fun e hm => ?_) he.symm, hz, hal, hsk, hd, fun i x y H' hx e' ty Q' k' => ⟨[.t (enc x)], key x, .cons ty .nil, hf x (List.mem_of_getElem? hx), k'⟩, fun p' out H' hp e3 h3 h4 => k p' out H' hp e3 h3 h4⟩
  have : e.1 ∈ es.map (·.1) := List.mem_map.mpr ⟨e, hm, rfl⟩
  rw [he] at this
  obtain ⟨y, _, ey⟩ := List.mem_map.mp this
  rw [← ey]
  exact hdp y
theorem el_sortKD {Pf : List Ar → PyData → Prop} {key : Int → PyData} {ns : List Int} (hdk : IsDk K H td σ kvs) (he : kvs.map (·.1) = ns.map .inl) (hz : ns.length ≤ 100000) (hal : PySem.W.AllAlike (ns.map key)) (hsk : ∀ x ∈ ns, ∃ ds, key x = .tuple ds) (hd : ∀ x ∈ ns, (key x).depth ≤ 8) (hf : ∀ x ∈ ns, Pf [.t (.int x)] (key x)) :
    EL K (tSortK K P w (spT K Pf) td) σ H ((ns.mergeSort (PySem.W.dataLe false key)).map .int) := fun H1 q Q k =>
  hdk.run H1 q _ fun p ws h1 h2 => ⟨p, Int, .int, key, ns, rfl, .dk ws h1 (by
    have e := h2.keys
    rw [he] at e
    have e2 := congrArg (List.map kD) e
    rw [List.map_map, List.map_map] at e2
    exact e2.symm), hz, hal, hsk, hd, fun i x y H' hx e' ty Q' k' => ⟨[.t (.int x)], key x, .cons ty .nil, hf x (List.mem_of_getElem? hx), k'⟩, fun p' out H' hp e3 h3 h4 => k p' out H' hp e3 h3 h4⟩
/-- sorted(d) -/
theorem el_sortedD {ns : List Int} (hdk : IsDk K H td σ kvs) (he : kvs.map (·.1) = ns.map .inl) (hz : ns.length < 64) :
    EL K (tCB (fun xs H Q => ∃ (a : Addr) (kvs : List (Key × V)) (ks : List Int), xs = [.ref a] ∧ Rd H a (.dK kvs) ∧ kvs.map (·.1) = ks.map Sum.inl ∧ ks.length < 64 ∧
      ∀ (ys : List Int) (p : Addr), ys.Perm ks → ys.Pairwise (· ≤ ·) → H p = none → Q (.ref p) (upd H p (.lst (ys.map V.int)))) (tCons td tNil)) σ H ((sortI ns).map .int) := fun H1 q Q k =>
  hdk.run H1 q _ fun p ws h1 h2 => ⟨p, ws, ns, rfl, h1, by rw [h2.keys, he], hz, fun ys l hp ho hl => by
    have := sortI_of hp ho
    subst this
    exact k l _ _ hl (same_upd hl) upd_same ((TdAll.of_ints _).same (same_upd hl))⟩
/-- sorted(a list of ints) -/
theorem el_sortedI {ns : List Int} (ha : E1 K ta σ H (.l (ns.map .int))) : EL K (tCB (rSortedI K) (tCons ta tNil)) σ H ((sortI ns).map .int) := fun H1 q Q k =>
  ha H1 q _ fun v H2 e2 h2 => by
    obtain ⟨p, vs, rfl, t, z⟩ := h2
    obtain rfl := z.ints
    refine ⟨p, ns, rfl, t, fun ys l hp ho hl => ?_⟩
    have := sortI_of hp ho
    subst this
    exact k l _ _ (e2.free hl) (e2.trans (same_upd hl)) upd_same ((TdAll.of_ints _).same (same_upd hl))
/-- list(d) -/
theorem el_listD (R : Rel K H0 Hk H σ Γ) (h : Γ[i]? = some (Sl.w p (.dk kvs))) : EL K (tCB rListD (tCons (tVar i) tNil)) σ H (kvs.map fun kv => kD kv.1) := fun H1 q Q k => by
  obtain ⟨h1, _, o, h3, ws, rfl, h5⟩ := (R.same q).sl i _ h
  refine ⟨_, h1, p, ws, rfl, h3, fun l hl => k l _ _ hl (same_upd hl) upd_same ?_⟩
  have e2 := congrArg (List.map kD) h5.keys
  rw [List.map_map, List.map_map] at e2
  have : kvs.map (fun kv => kD kv.1) = ws.map (fun kv => kD kv.1) := e2.symm
  rw [this]
  exact (td_keys ws).same (same_upd hl)
end
end CW

set_option maxRecDepth 100000
set_option maxHeartbeats 4000000
/-! More readings: loops, slices, tuples, own lists. -/
namespace CW
open PySem PySem.Spec PyProof.Rows L2
open C8 (Cal Met Mak pe_c pe_mk pe_mt pe_mt0)
theorem u64 {k : Nat} {A : Around} (h : Room k A) : A.units + 64 < cLine := by have := h.un; omega
section
variable {α : Type} {K : PySem.W.Frag} {P : Program} {w : World} {H0 Hk Hm H H' H2 : Hp} {σ : L2.St} {Γ Γ' : List Sl} {te ta tb tc td ty tv tk tl : TE} {tr : TA} {tt tu : TT} {t u : TS} {d e x y : PyData} {ds es : List PyData} {b b' : Bool} {a a' : Ar} {as : List Ar} {i j : Nat} {n m lo hi : Int} {kvs : KD} {p : Addr} {c : Ct} {D : Ends} {xs : List α} {enc : α → PyData} {g : TG} {Q : L2.St → Hp → Prop}
/-! ### loops -/
theorem s_forTG (hs : ET K te σ H (.tuple (xs.map enc)))
    (h : ∀ H2, Same H H2 → ∃ W : Nat → L2.St → Hp → Prop, W 0 σ H2 ∧ (∀ n σ' H', W n σ' H' → Keep H2 H') ∧
      (∀ n x v σ' H', xs[n]? = some x → W n σ' H' → Td K H' v (enc x) → g v σ' H' fun σ3 H3 => t { D with nx := W (n + 1), ct := W (n + 1), bk := D.nx } σ3 H3) ∧ ∀ σ' H', W xs.length σ' H' → D.nx σ' H') : tFor (iTup K te) g t D σ H :=
  hs H (.refl _) _ fun v H2 e2 h2 => by
    obtain ⟨a, vs, rfl, tu, q⟩ := h2.t
    obtain ⟨W, w0, w1, w2, w3⟩ := h H2 e2
    refine ⟨a, rfl, ⟨vs, tu.sq⟩, for_tup (K := K) (a := a) (xs := vs) W w0 (fun n σ' H' _ h => (tu.keep (w1 n σ' H' h)).sq) (fun n v σ' H' hn h => ?_) fun σ' H' h => ?_⟩
    · obtain ⟨d, hd, td⟩ := q.get' hn
      obtain ⟨x, hx, rfl⟩ := map_get hd
      exact w2 n x v σ' H' hx h (td.k (w1 n σ' H' h))
    · rw [q.length, List.length_map] at h
      exact w3 σ' H' h
theorem s_forLG (hs : E1 K te σ H (.l (xs.map enc)))
    (h : ∀ H2 a vs, Same H H2 → SqL K H2 a vs → TdAll K H2 vs (xs.map enc) → ∃ W : Nat → L2.St → Hp → Prop, W 0 σ H2 ∧ (∀ n σ' H', W n σ' H' → Keep H2 H' ∧ SqL K H' a vs) ∧
      (∀ n x v σ' H', xs[n]? = some x → W n σ' H' → Td K H' v (enc x) → g v σ' H' fun σ3 H3 => t { D with nx := W (n + 1), ct := W (n + 1), bk := D.nx } σ3 H3) ∧ ∀ σ' H', W xs.length σ' H' → D.nx σ' H') : tFor (iList K te) g t D σ H :=
  hs H (.refl _) _ fun v H2 e2 h2 => by
    obtain ⟨a, vs, rfl, tu, q⟩ := h2
    obtain ⟨W, w0, w1, w2, w3⟩ := h H2 a vs e2 tu q
    refine ⟨a, rfl, ⟨vs, tu⟩, for_list (K := K) (a := a) (xs := vs) W w0 (fun n σ' H' _ h => (w1 n σ' H' h).2) (fun n v σ' H' hn h => ?_) fun σ' H' h => ?_⟩
    · obtain ⟨d, hd, td⟩ := q.get' hn
      obtain ⟨x, hx, rfl⟩ := map_get hd
      exact w2 n x v σ' H' hx h (td.k (w1 n σ' H' h).1)
    · rw [q.length, List.length_map] at h
      exact w3 σ' H' h
theorem s_forP (R : Rel K H0 Hk H σ Γ) (hs : ET K te σ H (.tuple (xs.map enc))) (G : Nat → List Sl) (φ : Nat → Hp → Prop) (h0 : Γ = G 0) (hφ : ∀ H2, Same H H2 → φ 0 H2)
    (turn : ∀ (Hm : Hp) (n : Nat) (x : α) (v : V) (σ' : L2.St) (H' : Hp), xs[n]? = some x → Rel K H0 Hm H' σ' (G n) → φ n H' → (∀ {Γ' σ' H'}, Rel K H0 Hm H' σ' Γ' → Rel K H0 Hk H' σ' Γ') → Td K H' v (enc x) →
      g v σ' H' fun σ3 H3 => t { D with nx := fun σ2 H2 => Rel K H0 Hm H2 σ2 (G (n + 1)) ∧ φ (n + 1) H2, ct := fun σ2 H2 => Rel K H0 Hm H2 σ2 (G (n + 1)) ∧ φ (n + 1) H2, bk := D.nx } σ3 H3)
    (k : ∀ σ' H', Rel K H0 Hk H' σ' (G xs.length) → φ xs.length H' → D.nx σ' H') : tFor (iTup K te) g t D σ H :=
  s_forTG hs fun H2 e2 => ⟨fun n σ' H' => Rel K H0 H2 H' σ' (G n) ∧ φ n H', ⟨h0 ▸ (R.same e2).rebase, hφ H2 e2⟩, fun n σ' H' h => h.1.keep, fun n x v σ' H' hx h tv => turn H2 n x v σ' H' hx h.1 h.2 (fun R' => (R.same e2).back R') tv, fun σ' H' h => k σ' H' ((R.same e2).back h.1) h.2⟩
/-- over a list that is only read -/
theorem s_forR (R : Rel K H0 Hk H σ Γ) (hi : Γ[i]? = some (.r (xs.map enc))) (G : Nat → List Sl) (φ : Nat → Hp → Prop) (h0 : Γ = G 0) (hφ : φ 0 H)
    (turn : ∀ (Hm : Hp) (n : Nat) (x : α) (v : V) (σ' : L2.St) (H' : Hp), xs[n]? = some x → Rel K H0 Hm H' σ' (G n) → φ n H' → (∀ {Γ' σ' H'}, Rel K H0 Hm H' σ' Γ' → Rel K H0 Hk H' σ' Γ') → Td K H' v (enc x) →
      g v σ' H' fun σ3 H3 => t { D with nx := fun σ2 H2 => Rel K H0 Hm H2 σ2 (G (n + 1)) ∧ φ (n + 1) H2, ct := fun σ2 H2 => Rel K H0 Hm H2 σ2 (G (n + 1)) ∧ φ (n + 1) H2, bk := D.nx } σ3 H3)
    (k : ∀ σ' H', Rel K H0 Hk H' σ' (G xs.length) → φ xs.length H' → D.nx σ' H') : tFor (iList K (tVar i)) g t D σ H := by
  obtain ⟨a, vs, h1, h2, h3⟩ := R.sl i _ hi
  refine ⟨_, h1, a, rfl, ⟨vs, Same.seq R.base h2⟩, for_list (K := K) (a := a) (xs := vs) (fun n σ' H' => Rel K H0 H H' σ' (G n) ∧ φ n H') ⟨h0 ▸ R.rebase, hφ⟩ (fun n σ' H' _ h => Same.seq h.1.base h2) (fun n v σ' H' hn h => ?_) fun σ' H' h => ?_⟩
  · obtain ⟨d, hd, td⟩ := h3.get' hn
    obtain ⟨x, hx, rfl⟩ := map_get hd
    exact turn H n x v σ' H' hx h.1 h.2 (fun R' => R.back R') (td.same h.1.base)
  · rw [h3.length, List.length_map] at h
    exact k σ' H' (R.back h.1) h.2
/-- over an own list that stays -/
theorem s_forO {vs : List V} (R : Rel K H0 Hk H σ Γ) (hi : Γ[i]? = some (Sl.w p (.fix vs (xs.map enc)))) (G : Nat → List Sl) (φ : Nat → Hp → Prop) (hG : ∀ n, (G n)[i]? = some (Sl.w p (.fix vs (xs.map enc)))) (h0 : Γ = G 0) (hφ : φ 0 H)
    (turn : ∀ (Hm : Hp) (n : Nat) (x : α) (v : V) (σ' : L2.St) (H' : Hp), xs[n]? = some x → Rel K H0 Hm H' σ' (G n) → φ n H' → (∀ {Γ' σ' H'}, Rel K H0 Hm H' σ' Γ' → Rel K H0 Hk H' σ' Γ') → Td K H' v (enc x) →
      g v σ' H' fun σ3 H3 => t { D with nx := fun σ2 H2 => Rel K H0 Hm H2 σ2 (G (n + 1)) ∧ φ (n + 1) H2, ct := fun σ2 H2 => Rel K H0 Hm H2 σ2 (G (n + 1)) ∧ φ (n + 1) H2, bk := D.nx } σ3 H3)
    (k : ∀ σ' H', Rel K H0 Hk H' σ' (G xs.length) → φ xs.length H' → D.nx σ' H') : tFor (iList K (tVar i)) g t D σ H := by
  obtain ⟨h1, _, o, h3, rfl, h5⟩ := R.sl i _ hi
  refine ⟨_, h1, p, rfl, ⟨vs, .inl (.inl h3)⟩, for_list (K := K) (a := p) (xs := vs) (fun n σ' H' => Rel K H0 H H' σ' (G n) ∧ φ n H') ⟨h0 ▸ R.rebase, hφ⟩ (fun n σ' H' _ h => ?_) (fun n v σ' H' hn h => ?_) fun σ' H' h => ?_⟩
  · obtain ⟨_, _, o', q, rfl, _⟩ := h.1.sl i _ (hG n)
    exact .inl (.inl q)
  · obtain ⟨d, hd, td⟩ := h5.get' hn
    obtain ⟨x, hx, rfl⟩ := map_get hd
    exact turn H n x v σ' H' hx h.1 h.2 (fun R' => R.back R') (td.k h.1.keep)
  · rw [h5.length, List.length_map] at h
    exact k σ' H' (R.back h.1) h.2
/-- an own list, its items fixed -/
theorem Rel.fixed (R : Rel K H0 Hk H σ Γ) (h : Γ[i]? = some (Sl.w p (.lst ds))) : ∃ vs, Rel K H0 Hk H σ (Γ.set i (Sl.w p (.fix vs ds))) := by
  obtain ⟨_, _, o, q3, vs, q4, _⟩ := R.sl i _ h
  subst q4
  refine ⟨vs, R.weak h (fun ⟨h1, h2, o, h3, vs', h4, h5⟩ => ?_) fun a c e => ?_⟩
  · subst h4
    rw [q3] at h3
    cases h3
    exact ⟨h1, h2, _, q3, rfl, h5⟩
  · cases e
    exact ⟨_, rfl⟩
theorem s_rng1 (R : Rel K H0 Hk H σ Γ) (hs : ET K te σ H (.int n)) (h1 : n < 2 ^ 62) (h2 : 0 ≤ n) (G : Nat → List Sl) (φ : Nat → Hp → Prop) (h0 : Γ = G 0) (hφ : ∀ H2, Same H H2 → φ 0 H2)
    (turn : ∀ (Hm : Hp) (m : Nat) (σ' : L2.St) (H' : Hp), (m : Int) < n → Rel K H0 Hm H' σ' ((G m).set i (.t (.int m))) → φ m H' → (∀ {Γ' σ' H'}, Rel K H0 Hm H' σ' Γ' → Rel K H0 Hk H' σ' Γ') →
      t { D with nx := fun σ2 H2 => Rel K H0 Hm H2 σ2 (G (m + 1)) ∧ φ (m + 1) H2, ct := fun σ2 H2 => Rel K H0 Hm H2 σ2 (G (m + 1)) ∧ φ (m + 1) H2, bk := D.nx } σ' H')
    (k : ∀ σ' H', Rel K H0 Hk H' σ' (G n.toNat) → φ n.toNat H' → D.nx σ' H') : tFor (iRng1 (tCons te tNil)) (gName i) t D σ H :=
  hs H (.refl _) _ fun v H2 e2 q => by
    have R2 := R.same e2
    refine ⟨n, by rw [q.i], by omega, h1, for_range (fun m σ' H' => Rel K H0 H2 H' σ' (G m) ∧ φ m H') ⟨h0 ▸ R2.rebase, hφ H2 e2⟩ (fun m σ' H' hm h => ?_) fun σ' H' h => k σ' H' (R2.back h.1) h.2⟩
    have e : (0 : Int) + (m : Nat) = (m : Int) := by omega
    rw [e]
    exact turn H2 m _ H' (by omega) (h.1.set_t i (.int _)) h.2 fun R' => R2.back R'
theorem s_rng2 (R : Rel K H0 Hk H σ Γ) (hl : ET K tl σ H (.int lo)) (hs : ET K te σ H (.int n)) (h1 : n < 2 ^ 62) (h2 : lo ≤ n) (h3 : -(2 ^ 62) ≤ lo) (G : Nat → List Sl) (φ : Nat → Hp → Prop) (h0 : Γ = G 0) (hφ : ∀ H2, Same H H2 → φ 0 H2)
    (turn : ∀ (Hm : Hp) (m : Nat) (σ' : L2.St) (H' : Hp), lo + (m : Int) < n → Rel K H0 Hm H' σ' ((G m).set i (.t (.int (lo + (m : Int))))) → φ m H' → (∀ {Γ' σ' H'}, Rel K H0 Hm H' σ' Γ' → Rel K H0 Hk H' σ' Γ') →
      t { D with nx := fun σ2 H2 => Rel K H0 Hm H2 σ2 (G (m + 1)) ∧ φ (m + 1) H2, ct := fun σ2 H2 => Rel K H0 Hm H2 σ2 (G (m + 1)) ∧ φ (m + 1) H2, bk := D.nx } σ' H')
    (k : ∀ σ' H', Rel K H0 Hk H' σ' (G (n - lo).toNat) → φ (n - lo).toNat H' → D.nx σ' H') : tFor (iRng2 (tCons tl (tCons te tNil))) (gName i) t D σ H :=
  hl H (.refl _) _ fun v1 H1 e1 q1 => hs H1 e1 _ fun v H2 e2 q => by
    have R2 := (R.same e1).same e2
    refine ⟨lo, n, by rw [q.i, q1.i], by omega, for_range (fun m σ' H' => Rel K H0 H2 H' σ' (G m) ∧ φ m H') ⟨h0 ▸ R2.rebase, hφ H2 (e1.trans e2)⟩ (fun m σ' H' hm h => ?_) fun σ' H' h => k σ' H' (R2.back h.1) h.2⟩
    exact turn H2 m _ H' (by omega) (h.1.set_t i (.int _)) h.2 fun R' => R2.back R'
/-- while, by an invariant with a measure -/
theorem s_while {ι : Type} (I : ι → Hp → L2.St → Hp → Prop) (μ : ι → Nat) {z0 : ι} (h0 : I z0 H σ H)
    (turn : ∀ z σ' H', I z H σ' H' → ∃ b, EB tt σ' H' b ∧ (b = true → ∀ H2, Same H' H2 → t { D with nx := fun σ2 H3 => ∃ z', μ z' < μ z ∧ I z' H σ2 H3, ct := fun σ2 H3 => ∃ z', μ z' < μ z ∧ I z' H σ2 H3, bk := D.nx } σ' H2) ∧ (b = false → ∀ H2, Same H' H2 → D.nx σ' H2)) : tWhile tt t D σ H := by
  refine ⟨fun m σ' H' => ∃ z, μ z = m ∧ I z H σ' H', ⟨_, z0, rfl, h0⟩, fun m σ' H' ⟨z, hz, hI⟩ => ?_⟩
  obtain ⟨b, h1, h2, h3⟩ := turn z σ' H' hI
  refine h1 H' (.refl _) _ fun H2 e2 => ?_
  cases b with
  | true => exact iteT ⟨fun σ2 H3 => ∃ z', μ z' < μ z ∧ I z' H σ2 H3, fun σ2 H3 ⟨z', hl, hi⟩ => ⟨μ z', by omega, z', rfl, hi⟩, h2 rfl H2 e2⟩
  | false => exact iteF (h3 rfl H2 e2)
/-! ### targets -/
theorem g_name {v : V} (R : Rel K H0 Hk H σ Γ) (h : Td K H v d) (k : ∀ σ', Rel K H0 Hk H σ' (Γ.set i (.t d)) → Q σ' H) : gName i v σ H Q := k _ (R.set_t i h)
theorem g_pair {v : V} (R : Rel K H0 Hk H σ Γ) (h : Td K H v (.tuple [d, e])) (k : ∀ σ', Rel K H0 Hk H σ' ((Γ.set i (.t d)).set j (.t e)) → Q σ' H) : gTup K 2 (gCons (gName i) (gCons (gName j) gNil)) v σ H Q := by
  obtain ⟨a, xs, rfl, tu, q⟩ := h.t
  cases q with
  | cons q1 q2 =>
    cases q2 with
    | cons q2 q3 =>
      cases q3
      exact ⟨a, _, rfl, tu.sq, rfl, _, _, rfl, _, _, rfl, rfl, k _ ((R.set_t i q1).set_t j q2)⟩
/-! ### tuples -/
theorem et_catT (ha : ET K ta σ H (.tuple ds)) (hb : ET K tb σ H (.tuple es)) (hz : ds.length + es.length ≤ 1000) : ET K (tOp (rCatA K) ta tb) σ H (.tuple (ds ++ es)) := fun H1 q Q k =>
  ha H1 q _ fun v H2 e2 h2 => hb H2 (q.trans e2) _ fun u H3 e3 h3 => by
    obtain ⟨a, xs, rfl, t1, q1⟩ := (h2.same e3).t
    obtain ⟨b, ys, rfl, t2, q2⟩ := h3.t
    refine ⟨a, b, xs, ys, rfl, rfl, t1.sq, t2.sq, by rw [q1.length, q2.length]; exact sz1000 hz, fun h => ?_, fun _ h => ?_, fun _ _ l hl => ?_⟩
    · subst h
      cases q1
      exact k _ H3 (e2.trans e3) (.tup t2 q2)
    · subst h
      cases q2
      have k' := k (.ref a) H3 (e2.trans e3)
      rw [List.append_nil] at k'
      exact k' (.tup t1 q1)
    · exact k _ _ ((e2.trans e3).trans (same_upd hl)) (.tup (.inl upd_same) ((q1.append q2).same (same_upd hl)))
/-- what a slice's bound is -/
def EO (K : PySem.W.Frag) (to : TO) (σ : L2.St) (H : Hp) (o : Option Int) : Prop := ∀ H1, Same H H1 → ∀ Q : Option Int → Hp → Prop, (∀ H2, Same H1 H2 → Q o H2) → to σ H1 Q
theorem eo_some (h : ET K te σ H (.int n)) : EO K (tPart te) σ H (some n) := fun H1 e Q k => h H1 e _ fun v H2 e2 h2 => ⟨n, h2.i, k H2 e2⟩
theorem eo_none {H : Hp} : EO K tNoPart σ H none := fun H1 e Q k => k H1 (.refl _)
theorem TdAll.drop : ∀ {k : Nat} {vs : List V} {ds : List PyData}, TdAll K H vs ds → TdAll K H (vs.drop k) (ds.drop k)
  | 0, _, _, h => h
  | k + 1, _, [], h => by cases h; exact .nil
  | k + 1, _, _ :: _, h => by
    cases h with
    | cons _ b => exact TdAll.drop (k := k) b
theorem TdAll.take : ∀ {k : Nat} {vs : List V} {ds : List PyData}, TdAll K H vs ds → TdAll K H (vs.take k) (ds.take k)
  | 0, _, _, h => .nil
  | k + 1, _, [], h => by cases h; exact .nil
  | k + 1, _, _ :: _, h => by
    cases h with
    | cons a b => exact .cons a (TdAll.take (k := k) b)
def cutD (xs : List PyData) (lo hi : Option Int) : List PyData := (xs.drop (HT.sIx xs.length 0 lo)).take (HT.sIx xs.length xs.length hi - HT.sIx xs.length 0 lo)
theorem et_slT {tlo thi : TO} {lo hi : Option Int} (ha : ET K ta σ H (.tuple ds)) (hl : EO K tlo σ H lo) (hh : EO K thi σ H hi) : ET K (tSl (rSlA K) ta tlo thi) σ H (.tuple (cutD ds lo hi)) := fun H1 q Q k =>
  ha H1 q _ fun v H2 e2 h2 => hl H2 (q.trans e2) _ fun H3 e3 => hh H3 ((q.trans e2).trans e3) _ fun H4 e4 => by
    obtain ⟨a, xs, rfl, t1, q1⟩ := (h2.same (e3.trans e4)).t
    have sm := (e2.trans e3).trans e4
    have hlen := q1.length
    refine ⟨a, xs, rfl, t1.sq, fun hw => ?_, fun _ l hl => ?_⟩
    · refine k _ H4 sm (.tup t1 ?_)
      unfold cutD
      rw [← hlen, hw.1, hw.2, List.drop_zero, Nat.sub_zero, hlen, List.take_length]
      exact q1
    · refine k _ _ (sm.trans (same_upd hl)) (.tup (.inl upd_same) (TdAll.same (same_upd hl) ?_))
      unfold cutD cutV
      rw [← hlen]
      exact TdAll.take (TdAll.drop q1)
/-! ### own lists -/
theorem s_pop {p : Addr} (R : Rel K H0 Hk H σ Γ) (h : Γ[i]? = some (Sl.w p (.lst (ds ++ [d])))) (k : ∀ v H', Rel K H0 Hk H' σ (Γ.set i (Sl.w p (.lst ds))) → Td K H' v d → g v σ H' D.nx) :
    tAsg (tBM K "list" rPop (tVar i) tNil) g D σ H := by
  obtain ⟨h1, h2, o, h3, vs, rfl, h5⟩ := R.sl i _ h
  have hl := h5.length
  rw [List.length_append, List.length_singleton] at hl
  obtain ⟨v, hv, tv⟩ := h5.get (i := ds.length) (d := d) (by simp)
  have hvl : vs.dropLast = vs.take ds.length := by rw [List.dropLast_eq_take]; congr 1; omega
  refine ⟨_, h1, .inl ⟨rfl, _, SqL.of h3⟩, p, vs, v, rfl, rfl, h3, by rw [hl]; simpa using hv, ?_⟩
  have q := TdAll.take (k := ds.length) h5
  rw [List.take_left'  rfl] at q
  refine k v _ (R.mut h ⟨vs.dropLast, rfl, by rw [hvl]; exact q⟩) (tv.k (keep_upd fun ys z => ?_))
  rw [h3] at z
  cases z
theorem s_pop0 {p : Addr} (R : Rel K H0 Hk H σ Γ) (h : Γ[i]? = some (Sl.w p (.lst (ds ++ [d])))) (k : ∀ v H', Rel K H0 Hk H' σ (Γ.set i (Sl.w p (.lst ds))) → Td K H' v d → g v σ H' D.nx) :
    tAsg (tBM0 K "list" rPop (tVar i)) g D σ H := s_pop R h k
theorem s_aug {f : Int → Int → Int} (R : Rel K H0 Hk H σ Γ) (h : Γ[i]? = some (.t (.int n))) (he : ET K te σ H (.int m)) (k : ∀ σ' H', Same H H' → Rel K H0 Hk H' σ' (Γ.set i (.t (.int (f n m)))) → D.nx σ' H') : tAug i te (ipI f) D σ H := by
  obtain ⟨v, h1, h2⟩ := R.sl i _ h
  refine ⟨v, h1, he H (.refl _) _ fun u H2 e2 h3 => ⟨n, m, h2.i, h3.i, k _ H2 e2 ((R.same e2).set_t i (.int _))⟩⟩
theorem el_cat (ha : EL K ta σ H ds) (hb : EL K tb σ H es) (hz : ds.length + es.length ≤ 100000) : EL K (tOp rCat ta tb) σ H (ds ++ es) := fun H1 q Q k =>
  ha H1 q _ fun p1 vs H2 n2 e2 h2 t2 => hb H2 (q.trans e2) _ fun p2 us H3 n3 e3 h3 t3 => ⟨p1, p2, vs, us, rfl, rfl, e3 _ _ h2, h3, by rw [t2.length, t3.length]; exact Nat.le_trans hz (by decide), fun l hl =>
    k l _ _ ((e2.trans e3).free hl) ((e2.trans e3).trans (same_upd hl)) upd_same (((t2.same e3).append t3).same (same_upd hl))⟩
/-! ### chains of comparisons -/
theorem et_chain {f g : Int → Int → Bool} {l : Int} (ha : ET K ta σ H (.int n)) (hb : ET K tb σ H (.int m)) (hc : ET K tc σ H (.int l)) : ET K (tChain (rI0 fun i j => .bl (f i j)) (rI0 fun i j => .bl (g i j)) ta tb tc) σ H (.bool (f n m && g m l)) := fun H1 q Q k =>
  ha H1 q _ fun v H2 e2 h2 => hb H2 (q.trans e2) _ fun u H3 e3 h3 => ⟨n, m, h2.i, h3.i, _, rfl, by
    cases hf : f n m with
    | true =>
      refine iteT (hc H3 ((q.trans e2).trans e3) _ fun z H4 e4 h4 => ⟨m, l, h3.i, h4.i, ?_⟩)
      have k' := k (.bl (g m l)) H4 ((e2.trans e3).trans e4)
      rw [hf] at k'
      exact k' (.bl _)
    | false =>
      refine iteF ?_
      have k' := k (.bl false) H3 (e2.trans e3)
      rw [hf] at k'
      exact k' (.bl _)⟩
end
/-! ### the rules in a comprehension's block -/
section
variable {X : Cx}
theorem u65 {k : Nat} {A : Around} (h : Room k A) : A.units + 65 < cLine := by have := h.un; omega
theorem k_ix_tup (K : PySem.W.Frag) (h : X.K = K) : IxR X (rIxT K) := h ▸ ix_tup
theorem k_ix_list (K : PySem.W.Frag) (h : X.K = K) : IxR X (rIxL K) := h ▸ ix_list
theorem k_len (K : PySem.W.Frag) (h : X.K = K) : CallR X (.builtin "len") (fun xs H Q => ∃ p ys, xs = [.ref p] ∧ (SqL K H p ys ∨ SqT K H p ys) ∧ Q (.int ys.length) H) := h ▸ call_len_seq
theorem k_in (K : PySem.W.Frag) (h : X.K = K) : OpR X (compareOp .In) (rIn K false) := h ▸ op_in_seq
theorem k_notIn (K : PySem.W.Frag) (h : X.K = K) : OpR X (compareOp .NotIn) (rIn K true) := h ▸ op_notIn_seq
theorem k_eqD (K : PySem.W.Frag) (h : X.K = K) (hu : X.A.units + 64 < cLine) : OpR X (compareOp .Eq) (rEqD K) := h ▸ op_eqD hu
theorem k_neD (K : PySem.W.Frag) (h : X.K = K) (hu : X.A.units + 64 < cLine) : OpR X (compareOp .NotEq) (rNeD K) := h ▸ op_neD hu
theorem k_inT (K : PySem.W.Frag) (h : X.K = K) (hu : X.A.units + 65 < cLine) : OpR X (compareOp .In) (rInTD K false) := h ▸ op_inT hu
theorem k_tuple (K : PySem.W.Frag) (h : X.K = K) : CallR X (.type "tuple") (fun xs H Q => ∃ p ys, xs = [.ref p] ∧ ((SqL K H p ys ∧ ∀ l, H l = none → Q (.ref l) (upd H l (.tup ys))) ∨ (SqT K H p ys ∧ Q (.ref p) H))) := h ▸ call_tuple_of
theorem pe_dcG {kx vx tg iter : Expr} {ifs : List Expr} {scope : Scope} {own : List (Str × Nat)} {pos : Pos} {wi : TI} {g : TG} {tt : TT} {tk tv : TE} (hc : X.calm = true) (hN : X.N.Nodup) (hi : PI X tg iter wi) (ok : BlkOk X.N X.env.scope scope own)
    (hg : ∀ (s : Shared) (H : Hp) (C : Addr) (cl : List (Str × Addr)) (fp : List Addr), PG (X.blk s H scope (compEnvC scope cl C X.env) fp) tg g) (ht : ∀ (s : Shared) (H : Hp) (C : Addr) (cl : List (Str × Addr)) (fp : List Addr), PTs (X.blk s H scope (compEnvC scope cl C X.env) fp) ifs tt)
    (hk : ∀ (s : Shared) (H : Hp) (C : Addr) (cl : List (Str × Addr)) (fp : List Addr), PE (X.blk s H scope (compEnvC scope cl C X.env) fp) kx tk)
    (he : ∀ (s : Shared) (H : Hp) (C : Addr) (cl : List (Str × Addr)) (fp : List Addr), PE (X.blk s H scope (compEnvC scope cl C X.env) fp) vx tv) (kd : DKd X.prog X.w X.K X.A) (hkd : kd = dkInt X.prog X.w X.K X.A := by rfl) (hs : ∀ x, foldedSetIterable iter X.env x = pure x := by intro _; rfl) :
    PE X (.DictComp kx vx [⟨tg, iter, ifs, 0⟩] scope pos) (tDcG (dkInt X.prog X.w X.K X.A) wi g tt tk tv (own.map (·.2))) :=
  ⟨fun pins s σ H Q I h => (pe_dc hc hN hi ok hg ht hk he hs).run pins s σ H Q I h⟩
end
end CW

set_option maxRecDepth 100000
set_option maxHeartbeats 4000000
/-! fractions, clauses: the walks. -/
namespace CW
open PySem PySem.Spec PyProof.Rows L2
open C8 (Cal Met Mak pe_c pe_mk pe_mt pe_mt0)
/-! ### mirrors -/
def fr (n : Int) : PyData := .tuple [.int n, .int 1]
def Sm64 (n : Int) : Prop := -(2 ^ 64) < n ∧ n < 2 ^ 64
def dW (ls : List Int) : PyData := .tuple (ls.map fun l => .tuple [.int l, fr 0])
def iabs (n : Int) : Int := if n < 0 then -n else n
def varsOf (R : Rs) : List Int := sortI (dedup [] (R.flatten.map iabs))
def clauseOf (ls : List Int) : Option Cl := if (dedup [] ls).any (fun l => (dedup [] ls).contains (-l)) then none else some (sortL (dedup [] ls))
def oC : Option Cl → PyData
  | none => .none
  | some c => dC c
def Pfraction (as : List Ar) (d : PyData) : Prop := ∃ n, as = [.t (.int n), .t (.int 1)] ∧ d = fr n
def Pplus (as : List Ar) (d : PyData) : Prop := ∃ a b, as = [.t (fr a), .t (fr b)] ∧ d = fr (a + b)
def Ptimes (as : List Ar) (d : PyData) : Prop := ∃ a b, as = [.t (fr a), .t (fr b)] ∧ Sm64 b ∧ d = fr (a * b)
def Pproduct (as : List Ar) (d : PyData) : Prop := ∃ ns : List Int, as = [.l (ns.map fr)] ∧ (∀ n ∈ ns, Sm64 n) ∧ d = fr (ns.foldl (· * ·) 1)
def Pliteral_key (as : List Ar) (d : PyData) : Prop := ∃ l, as = [.t (.int l)] ∧ d = litKey l
def Pclause_key (as : List Ar) (d : PyData) : Prop := ∃ c : Cl, as = [.t (dC c)] ∧ c.length ≤ 900 ∧ d = clKey c
def Pclause_of (as : List Ar) (d : PyData) : Prop := ∃ ls : List Int, as = [.l (ls.map .int)] ∧ ls.length ≤ 900 ∧ d = oC (clauseOf ls)
def Pvariables_of (as : List Ar) (d : PyData) : Prop := ∃ R : Rs, as = [.t (dR R)] ∧ R.flatten.length ≤ 90000 ∧ (varsOf R).length < 64 ∧ d = dC (varsOf R)
def Pweight_of (as : List Ar) (d : PyData) : Prop := ∃ (ls : List Int) (l : Int), as = [.t (dW ls), .t (.int l)] ∧ d = fr (if ls.contains l then 0 else 1)
theorem mem_dedup {α : Type} [BEq α] [LawfulBEq α] {x : α} : ∀ {ys acc : List α}, x ∈ dedup acc ys ↔ x ∈ acc ∨ x ∈ ys
  | [], acc => by simp [dedup]
  | y :: ys, acc => by
    show x ∈ dedup _ ys ↔ _
    rw [mem_dedup, List.mem_cons]
    split
    · rename_i h
      have hy : y ∈ acc := by simpa using h
      constructor
      · rintro (h1 | h1)
        · exact .inl h1
        · exact .inr (.inr h1)
      · rintro (h1 | h1 | h1)
        · exact .inl h1
        · subst h1; exact .inl hy
        · exact .inr h1
    · rw [List.mem_append, List.mem_singleton]
      constructor
      · rintro ((h1 | h1) | h1)
        · exact .inl h1
        · exact .inr (.inl h1)
        · exact .inr (.inr h1)
      · rintro (h1 | h1 | h1)
        · exact .inl (.inl h1)
        · exact .inl (.inr h1)
        · exact .inr h1
theorem dedup_len {α : Type} [BEq α] : ∀ (ys acc : List α), (dedup acc ys).length ≤ acc.length + ys.length
  | [], acc => Nat.le_refl _
  | y :: ys, acc => by
    refine Nat.le_trans (dedup_len ys _) ?_
    split
    · simp
    · simp; omega
theorem nks_inj : ∀ {a b : Cl}, nks (a.map .int) = nks (b.map .int) → a = b
  | [], [], _ => rfl
  | [], _ :: _, h => by rw [List.map_nil, List.map_cons, nks, nks] at h; cases h
  | _ :: _, [], h => by rw [List.map_nil, List.map_cons, nks, nks] at h; cases h
  | x :: a, y :: b, h => by
    rw [List.map_cons, List.map_cons, nks, nks, nk, nk] at h
    injection h with h1 h2
    injection h1 with h1
    rw [h1, nks_inj h2]
theorem nk_dC (a b : Cl) (h : nk (dC a) = nk (dC b)) : a = b := by
  unfold dC at h
  rw [nk, nk] at h
  injection h with h
  exact nks_inj h
theorem nks_depth : ∀ c : Cl, NestedKey.depthAll (nks (c.map .int)) = 0
  | [] => by rw [List.map_nil, nks, NestedKey.depthAll]
  | x :: c => by rw [List.map_cons, nks, NestedKey.depthAll, nk, NestedKey.depth, nks_depth c]; rfl
theorem nk_depth (c : Cl) : (nk (dC c)).depth ≤ 8 := by
  unfold dC
  rw [nk, NestedKey.depth, nks_depth]
  decide
theorem alike_litKey (a b : Int) : PySem.W.alike (litKey a) (litKey b) = true := by
  unfold litKey
  split <;> split <;> rfl
theorem alike_litKeys : ∀ a b : Cl, PySem.W.alikeAll (a.map litKey) (b.map litKey) = true
  | [], [] => rfl
  | [], _ :: _ => rfl
  | _ :: _, [] => rfl
  | x :: a, y :: b => by
    rw [List.map_cons, List.map_cons, PySem.W.alikeAll, alike_litKey, alike_litKeys a b]
    rfl
theorem alike_clKey (cs : Rs) : PySem.W.AllAlike (cs.map clKey) := by
  intro d hd d' hd'
  obtain ⟨a, _, rfl⟩ := List.mem_map.mp hd
  obtain ⟨b, _, rfl⟩ := List.mem_map.mp hd'
  unfold clKey
  rw [PySem.W.alike]
  exact alike_litKeys a b
theorem alike_lits (cs : List Int) : PySem.W.AllAlike (cs.map litKey) := by
  intro d hd d' hd'
  obtain ⟨a, _, rfl⟩ := List.mem_map.mp hd
  obtain ⟨b, _, rfl⟩ := List.mem_map.mp hd'
  exact alike_litKey a b
theorem depth_litKey (l : Int) : (litKey l).depth = 1 := by
  unfold litKey
  split <;> simp [PyData.depth, PyData.depthAll]
theorem depth_litKeys : ∀ c : Cl, PyData.depthAll (c.map litKey) ≤ 1
  | [] => by rw [List.map_nil, PyData.depthAll]; decide
  | x :: c => by
    have := depth_litKeys c
    rw [List.map_cons, PyData.depthAll, depth_litKey]
    omega
theorem depth_clKey (c : Cl) : (clKey c).depth ≤ 8 := by
  unfold clKey
  have := depth_litKeys c
  rw [PyData.depth]
  omega
theorem lit_tuple (l : Int) : ∃ ds, litKey l = .tuple ds := by
  unfold litKey
  split <;> exact ⟨_, rfl⟩
theorem le_sum {n : Nat} : ∀ {ns : List Nat}, n ∈ ns → n ≤ ns.sum
  | m :: ns, h => by
    rw [List.sum_cons]
    rcases List.mem_cons.mp h with rfl | h
    · omega
    · have := le_sum h
      omega
/-- the keys of a dict of ints -/
def hasK (ks : List Key) (k : Key) : Bool := ks.any fun z => decide (z = k)
theorem dval_some {m : KD} {k : Key} : (dval m k).isSome = hasK (m.map (·.1)) k := by
  induction m with
  | nil => rfl
  | cons p m ih =>
    unfold dval hasK at ih ⊢
    rw [List.find?_cons, List.map_cons, List.any_cons]
    by_cases q : p.1 = k
    · rw [decide_eq_true q]
      rfl
    · rw [decide_eq_false q, Bool.false_or]
      exact ih
theorem dput_keys (m : KD) (k : Key) (d : PyData) : (dput m k d).map (·.1) = if hasK (m.map (·.1)) k then m.map (·.1) else m.map (·.1) ++ [k] := by
  unfold dput
  rw [dval_some]
  split
  · rw [List.map_map]
    refine List.map_congr_left fun e _ => ?_
    show (if e.1 = k then (e.1, d) else e).1 = e.1
    split <;> rfl
  · rw [List.map_append]; rfl
theorem contains_inl (ys : List Int) (x : Int) : hasK (ys.map (Sum.inl : Int → Key)) (.inl x) = ys.contains x := by
  induction ys with
  | nil => rfl
  | cons y ys ih =>
    have ih' : (ys.map (Sum.inl : Int → Key)).any (fun z => decide (z = .inl x)) = ys.contains x := ih
    unfold hasK
    rw [List.map_cons, List.any_cons, ih', List.contains_cons]
    congr 1
    by_cases h : y = x
    · subst h; simp
    · have h2 : ¬ x = y := fun z => h z.symm
      have h3 : ¬ (Sum.inl y : Key) = Sum.inl x := fun z => h (Sum.inl.inj z)
      rw [decide_eq_false h3]
      simp [h2]
theorem dofI_keysG : ∀ (ps : List (Int × PyData)) (m : KD) (acc : List Int), m.map (·.1) = acc.map .inl → (ps.foldl (fun m p => dput m (.inl p.1) p.2) m).map (·.1) = (dedup acc (ps.map (·.1))).map .inl
  | [], m, acc, h => h
  | p :: ps, m, acc, h => by
    rw [List.foldl_cons, List.map_cons]
    refine dofI_keysG ps _ _ ?_
    rw [dput_keys, h, contains_inl]
    split
    · rfl
    · rw [List.map_append]; rfl
theorem dofI_keys (ps : List (Int × PyData)) : (dofI ps).map (·.1) = (dedup [] (ps.map (·.1))).map .inl := dofI_keysG ps [] [] rfl
theorem dofI_in (ps : List (Int × PyData)) (l : Int) : (dval (dofI ps) (.inl l)).isSome = (dedup [] (ps.map (·.1))).contains l := by
  rw [dval_some, dofI_keys, contains_inl]
/-- for l in d, d an own dict with ints for keys -/
theorem s_lockK {K : PySem.W.Frag} {H0 Hk H : Hp} {σ : L2.St} {Γ : List Sl} {i j : Nat} {p : Addr} {kvs : KD} {ns : List Int} {t : TS} {D : Ends} (R : Rel K H0 Hk H σ Γ) (hi : Γ[i]? = some (Sl.w p (.dk kvs))) (hij : i ≠ j) (ek : kvs.map (·.1) = ns.map .inl) {φ : Nat → Prop} (hφ : φ 0)
    (turn : ∀ (od : Obj) (ws : List (Key × V)), ws.map (·.1) = kvs.map (·.1) → ∀ (n : Nat) (l : Int) (σ' : L2.St) (H' : Hp), ns[n]? = some l → Rel K H0 Hk H' σ' ((Γ.set i (Sl.w p (frzOf od ws kvs))).set j (.t (.int l))) → φ n →
      t { nx := fun σ2 H2 => Rel K H0 Hk H2 σ2 ((Γ.set i (Sl.w p (frzOf od ws kvs))).set j .any) ∧ φ (n + 1), rt := fun v H2 => H2 p = some (.frz od (.dK ws)) ∧ D.rt v (upd H2 p (.dK ws)), bk := fun σ2 H2 => H2 p = some (.frz od (.dK ws)) ∧ D.nx σ2 (upd H2 p (.dK ws)), ct := fun σ2 H2 => Rel K H0 Hk H2 σ2 ((Γ.set i (Sl.w p (frzOf od ws kvs))).set j .any) ∧ φ (n + 1) } σ' H')
    (k : ∀ σ' H', Rel K H0 Hk H' σ' (Γ.set j .any) → φ ns.length → D.nx σ' H') : tLock (tFor (iKeys (tVar i)) (gName j) t) D σ H := by
  obtain ⟨h1, h2, o, h3, ws, rfl, h5⟩ := R.sl i _ hi
  refine ⟨p, _, h3, trivial, fun od => ?_⟩
  have hlen : ws.length = ns.length := by
    have := congrArg List.length (h5.keys.trans ek)
    simpa using this
  have il : i < Γ.length := (List.getElem?_eq_some_iff.mp hi).1
  have R1 : Rel K H0 Hk (upd H p (.frz od (.dK ws))) σ (Γ.set i (Sl.w p (frzOf od ws kvs))) := R.mut hi ⟨rfl, fun xs z => (by cases z), dk_zip h5⟩
  have at_ : ∀ {Γ' : List Sl} {H' : Hp} {σ' : L2.St}, Γ'[i]? = some (Sl.w p (frzOf od ws kvs)) → Rel K H0 Hk H' σ' Γ' → σ'[i]? = some (some (.ref p)) ∧ H' p = some (.frz od (.dK ws)) := fun hg R' => by
    obtain ⟨q1, _, o, q3, rfl, _⟩ := R'.sl i _ hg
    exact ⟨q1, q3⟩
  have gi : ∀ s, ((Γ.set i (Sl.w p (frzOf od ws kvs))).set j s)[i]? = some (Sl.w p (frzOf od ws kvs)) := fun s => by
    rw [List.getElem?_set_ne (Ne.symm hij), List.getElem?_set_self il]
  have R2 := R1.forget j
  refine ⟨_, (at_ (gi _) R2).1, p, od, rfl, .inl ⟨ws, upd_same, fun n m σ' H' => m = ns.length - n ∧ n ≤ ns.length ∧ Rel K H0 Hk H' σ' ((Γ.set i (Sl.w p (frzOf od ws kvs))).set j .any) ∧ φ n, ⟨_, rfl, Nat.zero_le _, R2, hφ⟩, fun n m σ' H' ⟨em, hn, R', hf⟩ => ?_⟩⟩
  obtain ⟨a1, a2⟩ := at_ (gi _) R'
  by_cases lt : n < ns.length
  · refine .inr ⟨⟨a2, by rw [hlen]; exact lt⟩, fun σ2 H2 => Rel K H0 Hk H2 σ2 ((Γ.set i (Sl.w p (frzOf od ws kvs))).set j .any) ∧ φ (n + 1), fun σ2 H2 ⟨q1, q2⟩ => ⟨ns.length - (n + 1), by omega, rfl, lt, q1, q2⟩, fun x H2 ⟨e, kk, v, hk, ex⟩ => ?_⟩
    subst e ex
    have hkk : kk = .inl ns[n] := by
      have e1 : (ws.map (·.1))[n]? = some kk := by rw [List.getElem?_map, hk]; rfl
      rw [h5.keys, ek, List.getElem?_map, List.getElem?_eq_getElem lt] at e1
      exact (Option.some.inj e1).symm
    subst hkk
    have R3 := (R'.set_t j (v := .int ns[n]) (d := .int ns[n]) (.int _))
    rw [List.set_set] at R3
    exact (turn od ws h5.keys n ns[n] _ _ (List.getElem?_eq_getElem lt) R3 hf)
  · have e : n = ns.length := by omega
    subst e
    refine .inl ⟨⟨a2, by omega⟩, a2, k _ _ ?_ hf⟩
    have R4 := R'.mut (gi _) (c' := .dk kvs) (o' := .dK ws) ⟨ws, rfl, ?_⟩
    · refine R4.eq ?_
      rw [List.set_comm _ _ hij, List.set_set, ← List.set_comm _ _ hij]
      rw [show Γ.set i (Sl.w p (.dk kvs)) = Γ from List.ext_getElem? fun z => by
        by_cases q : z = i
        · subst q
          rw [List.getElem?_set_self il, hi]
        · rw [List.getElem?_set_ne (Ne.symm q)]]
    · obtain ⟨_, _, o, q3, rfl, _, q6⟩ := R'.sl i _ (gi _)
      exact dk_unzip h5.keys q6
section
variable {P : Program} {w : World} {K : PySem.W.Frag} {mg : Str → Option Value} {base : Heap}
theorem et_gcd {H : Hp} {σ : L2.St} {ta tb : TE} {n m : Int} (ha : ET K ta σ H (.int n)) (hb : ET K tb σ H (.int m)) : ET K (tCB rGcd (tCons ta (tCons tb tNil))) σ H (.int ((Nat.gcd n.natAbs m.natAbs : Nat) : Int)) := fun H1 e Q k =>
  ha H1 e _ fun v H2 e2 h2 => hb H2 (e.trans e2) _ fun u H3 e3 h3 => ⟨n, m, by rw [h2.i, h3.i], k _ H3 (e2.trans e3) (.int _)⟩
theorem cmul1 {a b : Int} (h : Sm64 b) : CMul a b := .inr h
theorem sm1 : Sm64 1 := ⟨by decide, by decide⟩
theorem fr_eq {a b : Int} (h : a = b) : fr a = fr b := by rw [h]
abbrev Nfraction : List Str := ["n", "d", "common"]
theorem sc_fraction : FnScope Nfraction ["n", "d"] (defScope sQfraction) := ⟨rfl, rfl, rfl, by decide +kernel, rfl, by decide +kernel, by decide +kernel⟩
theorem cal_fraction (T : Tx K mg base) : Cal P w K mg base 1 "fraction" (spT K Pfraction) [] := by
  have sc := sc_fraction
  refine cal_t T 0 0 rfl rfl sc (fun _ _ _ _ _ _ us hl => match us, hl with | [_, _], _ => rfl) (fun as d h => ?_) (by decide) fun cdv A outer s H Q E hr => ?_
  · (first | (obtain ⟨_, rfl, _⟩ := h; rfl) | (obtain ⟨_, _, rfl, _⟩ := h; rfl) | (obtain ⟨_, _, _, rfl, _⟩ := h; rfl) | (obtain ⟨_, _, _, _, rfl, _⟩ := h; rfl) | (obtain ⟨_, _, _, _, _, rfl, _⟩ := h; rfl) | (obtain ⟨_, _, _, _, _, _, rfl, _⟩ := h; rfl))
  refine ⟨_, (pss_cons (ps_set (i := 2) sc.nd rfl (by first | exact Or.inl rfl | exact Or.inr rfl) (pe_callBfun cr_gcd rfl T.g_gcd (pa_cons (pv 0) (pa_cons (pv 1) pa_nil))))
    (pss_cons (ps_if (pt_cmpR op_lt (pv 1) pe_int (nomark _))
      (pss_one (ps_set (i := 2) sc.nd rfl (by first | exact Or.inl rfl | exact Or.inr rfl) (pe_un un_neg (pv 2))))
      pss_nil)
    (pss_one (ps_ret (pe_tup (pa_cons (pe_op op_fdiv (pv 0) (pv 2)) (pa_cons (pe_op op_fdiv (pv 1) (pv 2)) pa_nil))))))), fun as d h k σ R => ?_⟩
  obtain ⟨n, rfl, rfl⟩ := h
  refine sq (s_set R (d := .int 1) ((et_gcd (et_v R rfl) (et_v R rfl)).eq (by simp)) fun σ1 H1 _ R1 => ?_)
  refine sq (s_if (eb_t (et_ib (et_v R1 rfl) et_int)) (fun hb => by simp at hb) fun _ H2 e2 => ?_)
  have R2 := R1.same e2
  refine s_retT R2 (ET.eq (et_tup (ds := [_, _]) (ea_t (et_iC (et_v R2 rfl) (et_v R2 rfl) ⟨by decide, by decide⟩) (ea_t (et_iC (et_v R2 rfl) (et_v R2 rfl) ⟨by decide, by decide⟩) ea_nil))) (by simp [fr])) k
abbrev Nplus : List Str := ["a", "b"]
theorem sc_plus : FnScope Nplus ["a", "b"] (defScope sQplus) := ⟨rfl, rfl, rfl, by decide +kernel, rfl, by decide +kernel, by decide +kernel⟩
theorem cal_plus (T : Tx K mg base) : Cal P w K mg base 2 "plus" (spT K Pplus) [] := by
  have sc := sc_plus
  refine cal_t T 1 1 rfl rfl sc (fun _ _ _ _ _ _ us hl => match us, hl with | [_, _], _ => rfl) (fun as d h => ?_) (by decide) fun cdv A outer s H Q E hr => ?_
  · (first | (obtain ⟨_, rfl, _⟩ := h; rfl) | (obtain ⟨_, _, rfl, _⟩ := h; rfl) | (obtain ⟨_, _, _, rfl, _⟩ := h; rfl) | (obtain ⟨_, _, _, _, rfl, _⟩ := h; rfl) | (obtain ⟨_, _, _, _, _, rfl, _⟩ := h; rfl) | (obtain ⟨_, _, _, _, _, _, rfl, _⟩ := h; rfl))
  refine ⟨_, (pss_one (ps_ret (pe_c (cal_fraction T) hr (by decide) rfl (pa_cons (pe_op op_add (pe_op op_mul (pe_ix ix_tup (pv 0) pe_int (fun _ _ => rfl)) (pe_ix ix_tup (pv 1) pe_int (fun _ _ => rfl))) (pe_op op_mul (pe_ix ix_tup (pv 1) pe_int (fun _ _ => rfl)) (pe_ix ix_tup (pv 0) pe_int (fun _ _ => rfl)))) (pa_cons (pe_op op_mul (pe_ix ix_tup (pv 0) pe_int (fun _ _ => rfl)) (pe_ix ix_tup (pv 1) pe_int (fun _ _ => rfl))) pa_nil))))), fun as d h k σ R => ?_⟩
  obtain ⟨a, b, rfl, rfl⟩ := h
  refine s_retT R (et_call (ea_t (et_i (et_iC (et_ixT (et_v R rfl) et_int rfl) (et_ixT (et_v R rfl) et_int rfl) (cmul1 sm1)) (et_iC (et_ixT (et_v R rfl) et_int rfl) (et_ixT (et_v R rfl) et_int rfl) (cmul1 sm1))) (ea_t (et_iC (et_ixT (et_v R rfl) et_int rfl) (et_ixT (et_v R rfl) et_int rfl) (cmul1 sm1)) ea_nil)) ⟨_, rfl, fr_eq ?_⟩) k
  omega
abbrev Ntimes : List Str := ["a", "b"]
theorem sc_times : FnScope Ntimes ["a", "b"] (defScope sQtimes) := ⟨rfl, rfl, rfl, by decide +kernel, rfl, by decide +kernel, by decide +kernel⟩
theorem cal_times (T : Tx K mg base) : Cal P w K mg base 2 "times" (spT K Ptimes) [] := by
  have sc := sc_times
  refine cal_t T 2 2 rfl rfl sc (fun _ _ _ _ _ _ us hl => match us, hl with | [_, _], _ => rfl) (fun as d h => ?_) (by decide) fun cdv A outer s H Q E hr => ?_
  · (first | (obtain ⟨_, rfl, _⟩ := h; rfl) | (obtain ⟨_, _, rfl, _⟩ := h; rfl) | (obtain ⟨_, _, _, rfl, _⟩ := h; rfl) | (obtain ⟨_, _, _, _, rfl, _⟩ := h; rfl) | (obtain ⟨_, _, _, _, _, rfl, _⟩ := h; rfl) | (obtain ⟨_, _, _, _, _, _, rfl, _⟩ := h; rfl))
  refine ⟨_, (pss_one (ps_ret (pe_c (cal_fraction T) hr (by decide) rfl (pa_cons (pe_op op_mul (pe_ix ix_tup (pv 0) pe_int (fun _ _ => rfl)) (pe_ix ix_tup (pv 1) pe_int (fun _ _ => rfl))) (pa_cons (pe_op op_mul (pe_ix ix_tup (pv 0) pe_int (fun _ _ => rfl)) (pe_ix ix_tup (pv 1) pe_int (fun _ _ => rfl))) pa_nil))))), fun as d h k σ R => ?_⟩
  obtain ⟨a, b, rfl, hs, rfl⟩ := h
  exact s_retT R (et_call (ea_t (et_iC (et_ixT (et_v R rfl) et_int rfl) (et_ixT (et_v R rfl) et_int rfl) (cmul1 hs)) (ea_t (et_iC (et_ixT (et_v R rfl) et_int rfl) (et_ixT (et_v R rfl) et_int rfl) (cmul1 sm1)) ea_nil)) ⟨_, rfl, rfl⟩) k
abbrev Nproduct : List Str := ["row", "found", "item"]
theorem sc_product : FnScope Nproduct ["row"] (defScope sQproduct) := ⟨rfl, rfl, rfl, by decide +kernel, rfl, by decide +kernel, by decide +kernel⟩
theorem cal_product (T : Tx K mg base) : Cal P w K mg base 3 "product" (spT K Pproduct) [] := by
  have sc := sc_product
  refine cal_t T 3 3 rfl rfl sc (fun _ _ _ _ _ _ us hl => match us, hl with | [_], _ => rfl) (fun as d h => ?_) (by decide) fun cdv A outer s H Q E hr => ?_
  · (first | (obtain ⟨_, rfl, _⟩ := h; rfl) | (obtain ⟨_, _, rfl, _⟩ := h; rfl) | (obtain ⟨_, _, _, rfl, _⟩ := h; rfl) | (obtain ⟨_, _, _, _, rfl, _⟩ := h; rfl) | (obtain ⟨_, _, _, _, _, rfl, _⟩ := h; rfl) | (obtain ⟨_, _, _, _, _, _, rfl, _⟩ := h; rfl))
  refine ⟨_, (pss_cons (ps_set (i := 1) sc.nd rfl (by first | exact Or.inl rfl | exact Or.inr rfl) (pe_tup (pa_cons pe_int (pa_cons pe_int pa_nil))))
    (pss_cons (ps_for PassesOwn.never rfl (pi_list (pv 0)) (pg_name (i := 2) sc.nd rfl (by first | exact Or.inl rfl | exact Or.inr rfl))
      (pss_one (ps_set (i := 1) sc.nd rfl (by first | exact Or.inl rfl | exact Or.inr rfl) (pe_c (cal_times T) hr (by decide) rfl (pa_cons (pv 1) (pa_cons (pv 2) pa_nil))))))
    (pss_one (ps_ret (pv 1))))), fun as d h k σ R => ?_⟩
  obtain ⟨ns, rfl, hs, rfl⟩ := h
  refine sq (s_set R (d := fr 1) (et_tup (ds := [_, _]) (ea_t et_int (ea_t et_int ea_nil))) fun σ1 H1 _ R1 => ?_)
  refine sq (s_forR (xs := ns) (enc := fr) R1 (i := 0) rfl (fun n => [.r (ns.map fr), .t (fr ((ns.take n).foldl (· * ·) 1)), .any]) (fun _ _ => True) rfl trivial (fun Hm n x v σ2 H2 hx R2 _ _ tv => ?_) fun σ2 H2 R2 _ => ?_)
  · refine g_name R2 tv fun σ3 R3 => ?_
    refine s_set R3 (et_call (ea_t (et_v R3 rfl) (ea_t (et_v R3 rfl) ea_nil)) ⟨_, _, rfl, hs x (List.mem_of_getElem? hx), rfl⟩) fun σ4 H4 _ R4 => ⟨(R4.forget 2).eq ?_, trivial⟩
    rw [List.take_add_one, hx, Option.toList_some, List.foldl_append]
    rfl
  · rw [List.take_length] at R2
    exact s_retT R2 (et_v R2 rfl) k
abbrev Nliteral_key : List Str := ["literal"]
theorem sc_literal_key : FnScope Nliteral_key ["literal"] (defScope sQliteral_key) := ⟨rfl, rfl, rfl, by decide +kernel, rfl, by decide +kernel, by decide +kernel⟩
theorem cal_literal_key (T : Tx K mg base) : Cal P w K mg base 1 "literal_key" (spT K Pliteral_key) [] := by
  have sc := sc_literal_key
  refine cal_t T 4 4 rfl rfl sc (fun _ _ _ _ _ _ us hl => match us, hl with | [_], _ => rfl) (fun as d h => ?_) (by decide) fun cdv A outer s H Q E hr => ?_
  · (first | (obtain ⟨_, rfl, _⟩ := h; rfl) | (obtain ⟨_, _, rfl, _⟩ := h; rfl) | (obtain ⟨_, _, _, rfl, _⟩ := h; rfl) | (obtain ⟨_, _, _, _, rfl, _⟩ := h; rfl) | (obtain ⟨_, _, _, _, _, rfl, _⟩ := h; rfl) | (obtain ⟨_, _, _, _, _, _, rfl, _⟩ := h; rfl))
  refine ⟨_, (pss_one (ps_ret (pe_ifExp (pt_cmpR op_gt (pv 0) pe_int (nomark _)) (pe_tup (pa_cons (pv 0) (pa_cons pe_int pa_nil))) (pe_tup (pa_cons (pe_un un_neg (pv 0)) (pa_cons pe_int pa_nil)))))), fun as d h k σ R => ?_⟩
  obtain ⟨l, rfl, rfl⟩ := h
  refine s_retT R (et_if (eb_t (et_ib (et_v R rfl) et_int)) (fun hb => ?_) fun hb => ?_) k
  · have h : l > 0 := by simpa using hb
    unfold litKey
    rw [if_pos h]
    exact et_tup (ds := [_, _]) (ea_t (et_v R rfl) (ea_t et_int ea_nil))
  · have h : ¬ l > 0 := by simpa using hb
    unfold litKey
    rw [if_neg h]
    exact et_tup (ds := [_, _]) (ea_t (et_neg (et_v R rfl)) (ea_t et_int ea_nil))
abbrev Nclause_key : List Str := ["clause", "literal"]
theorem sc_clause_key : FnScope Nclause_key ["clause"] (defScope sQclause_key) := ⟨rfl, rfl, rfl, by decide +kernel, rfl, by decide +kernel, by decide +kernel⟩
theorem cal_clause_key (T : Tx K mg base) : Cal P w K mg base 2 "clause_key" (spT K Pclause_key) [] := by
  have sc := sc_clause_key
  refine cal_t T 5 5 rfl rfl sc (fun _ _ _ _ _ _ us hl => match us, hl with | [_], _ => rfl) (fun as d h => ?_) (by decide) fun cdv A outer s H Q E hr => ?_
  · (first | (obtain ⟨_, rfl, _⟩ := h; rfl) | (obtain ⟨_, _, rfl, _⟩ := h; rfl) | (obtain ⟨_, _, _, rfl, _⟩ := h; rfl) | (obtain ⟨_, _, _, _, rfl, _⟩ := h; rfl) | (obtain ⟨_, _, _, _, _, rfl, _⟩ := h; rfl) | (obtain ⟨_, _, _, _, _, _, rfl, _⟩ := h; rfl))
  refine ⟨_, (pss_one (ps_ret (pe_callTy call_tuple_of (by rfl) T.f_tuple (by decide +kernel) (pa_cons (pe_lc (own := [("literal", 1)]) rfl sc.nd (pi_tup (pv 0)) (blkOk_by (own := [("literal", 1)]) (N := Nclause_key) (sc := defScope sQclause_key) (by decide +kernel)) (fun _ _ _ _ _ => (pg_name (i := 1) sc.nd rfl (Or.inl rfl))) (fun _ _ _ _ _ => pts_nil) (fun _ _ _ _ _ => (pe_c (cal_literal_key T) hr (by decide) rfl (pa_cons (pv 1) pa_nil)))) pa_nil)))), fun as d h k σ R => ?_⟩
  obtain ⟨c, rfl, hl, rfl⟩ := h
  exact s_retT R (et_tupleL (el_mapT (xs := c) (enc := .int) R (et_v R rfl) (Nat.le_trans hl (by decide)) fun n x hx σ1 H1 R1 e1 => et_call (ea_t (et_v R1 rfl) ea_nil) ⟨_, rfl, rfl⟩).e1) k
abbrev Nclause_of : List Str := ["literals", "there", "literal"]
theorem sc_clause_of : FnScope Nclause_of ["literals"] (defScope sQclause_of) := ⟨rfl, rfl, rfl, by decide +kernel, rfl, by decide +kernel, by decide +kernel⟩
theorem cal_clause_of (T : Tx K mg base) : Cal P w K mg base 4 "clause_of" (spT K Pclause_of) [] := by
  have sc := sc_clause_of
  refine cal_t T 6 6 rfl rfl sc (fun _ _ _ _ _ _ us hl => match us, hl with | [_], _ => rfl) (fun as d h => ?_) (by decide) fun cdv A outer s H Q E hr => ?_
  · (first | (obtain ⟨_, rfl, _⟩ := h; rfl) | (obtain ⟨_, _, rfl, _⟩ := h; rfl) | (obtain ⟨_, _, _, rfl, _⟩ := h; rfl) | (obtain ⟨_, _, _, _, rfl, _⟩ := h; rfl) | (obtain ⟨_, _, _, _, _, rfl, _⟩ := h; rfl) | (obtain ⟨_, _, _, _, _, _, rfl, _⟩ := h; rfl))
  refine ⟨_, (pss_cons (ps_setDcG (i := 1) (own := [("literal", 2)]) rfl sc.nd rfl rfl (sw_trueD rfl rfl rfl (by decide +kernel)) (pi_list (pv 0)) (blkOk_by (own := [("literal", 2)]) (N := Nclause_of) (sc := defScope sQclause_of) (by decide +kernel)) (fun _ _ _ _ _ => (pg_name (i := 2) sc.nd rfl (Or.inl rfl))) (fun _ _ _ _ _ => pts_nil) (fun _ _ _ _ _ => (pv 2)) (fun _ _ _ _ _ => pe_bl) (dkInt _ _ _ _))
    (pss_cons (ps_lock (ps_for PassesOwn.never rfl (pi_keys (pv 1)) (pg_name (i := 2) sc.nd rfl (by first | exact Or.inl rfl | exact Or.inr rfl))
      (pss_one (ps_if (pt_cmp (pc_din (hu_of hr) (pe_un un_neg (pv 2)) (pv 1)))
        (pss_one (ps_ret pe_non))
        pss_nil))))
    (pss_one (ps_ret (pe_callTy call_tuple_of (by rfl) T.f_tuple (by decide +kernel) (pa_cons (pe_sortedK rfl (cal_literal_key T) hr (by decide) rfl T.f_sorted rfl (pv 1)) pa_nil)))))), fun as d h k σ R => ?_⟩
  obtain ⟨ls, rfl, hl, rfl⟩ := h
  refine sq (s_dcL (R' := True) (xs := ls) (enc := .int) (kf := fun l => l) (vf := fun _ => .bool true) R (e1_r R rfl) (Nat.le_trans hl (by decide)) (fun n x hx σ1 H1 R1 e1 => ⟨et_v R1 rfl, et_bl⟩) fun p σ1 H1 _ R1 => ?_)
  have ek : (dofI (ls.map fun l => (l, PyData.bool true))).map (·.1) = (dedup [] ls).map .inl := by rw [dofI_keys, List.map_map]; simp [Function.comp_def]
  have hc : ∀ l, (dval (dofI (ls.map fun l => (l, PyData.bool true))) (.inl l)).isSome = (dedup [] ls).contains l := fun l => by rw [dofI_in, List.map_map]; simp [Function.comp_def]
  refine sq (s_lockK R1 rfl (by decide) ek (φ := fun n => ∀ l ∈ (dedup [] ls).take n, (dedup [] ls).contains (-l) = false) (fun l hl => by cases hl) (fun od ws hws n l σ2 H2 hx R2 hφ => ?_) fun σ2 H2 R2 hφ => ?_)
  · refine s_if (eb_t (et_din (et_neg (et_v R2 rfl)) (dk_frz R2 rfl hws))) (fun hb H3 e3 => ?_) fun hb H3 e3 => ?_
    · have R3 := R2.same e3
      have hn : clauseOf ls = none := by
        unfold clauseOf
        rw [if_pos]
        rw [List.any_eq_true]
        exact ⟨l, List.mem_of_getElem? hx, by rw [← hc]; exact hb⟩
      rw [hn] at k
      obtain ⟨q1, q2, o, q3, rfl, _⟩ := R3.sl 1 _ rfl
      exact s_ret (K := K) et_non fun v H4 e4 tv => ⟨e4 _ _ q3, k v _ (same_mut (R3.base.trans e4) q2) (by rw [tv.n]; exact .non)⟩
    · refine ⟨((R2.same e3).forget 2).eq ?_, fun l' hl' => ?_⟩
      · rw [List.set_set]
      · rw [List.take_add_one, hx] at hl'
        rcases List.mem_append.mp hl' with h | h
        · exact hφ l' h
        · obtain rfl := List.mem_singleton.mp (by simpa using h)
          rw [← hc]
          exact hb
  · rw [List.take_length] at hφ
    have hn : clauseOf ls = some (sortL (dedup [] ls)) := by
      unfold clauseOf
      rw [if_neg]
      rw [List.any_eq_true]
      rintro ⟨l, h1, h2⟩
      rw [hφ l h1] at h2
      cases h2
    rw [hn] at k
    refine s_retT R2 (et_tupleL (el_sortKD (key := litKey) (dk_w R2 rfl) ek (by have := dedup_len ls []; simp at this; omega) (alike_lits _) (fun x _ => lit_tuple x) (fun x _ => by rw [depth_litKey]; decide) fun x _ => ⟨x, rfl, rfl⟩).e1) k
abbrev Nresidue_of : List Str := ["clauses", "there", "clause"]
theorem sc_residue_of : FnScope Nresidue_of ["clauses"] (defScope sQresidue_of) := ⟨rfl, rfl, rfl, by decide +kernel, rfl, by decide +kernel, by decide +kernel⟩
theorem cal_residue_of (T : Tx K mg base) : Cal P w K mg base 5 "residue_of" (spT K PresidueOf) [] := by
  have sc := sc_residue_of
  refine cal_t T 7 7 rfl rfl sc (fun _ _ _ _ _ _ us hl => match us, hl with | [_], _ => rfl) (fun as d h => ?_) (by decide) fun cdv A outer s H Q E hr => ?_
  · (first | (obtain ⟨_, rfl, _⟩ := h; rfl) | (obtain ⟨_, _, rfl, _⟩ := h; rfl) | (obtain ⟨_, _, _, rfl, _⟩ := h; rfl) | (obtain ⟨_, _, _, _, rfl, _⟩ := h; rfl) | (obtain ⟨_, _, _, _, _, rfl, _⟩ := h; rfl) | (obtain ⟨_, _, _, _, _, _, rfl, _⟩ := h; rfl))
  refine ⟨_, (pss_cons (ps_setDcG (i := 1) (own := [("clause", 2)]) rfl sc.nd rfl rfl (sw_trueD rfl rfl rfl (by decide +kernel)) (pi_list (pv 0)) (blkOk_by (own := [("clause", 2)]) (N := Nresidue_of) (sc := defScope sQresidue_of) (by decide +kernel)) (fun _ _ _ _ _ => (pg_name (i := 2) sc.nd rfl (Or.inl rfl))) (fun _ _ _ _ _ => pts_nil) (fun _ _ _ _ _ => (pv 2)) (fun _ _ _ _ _ => pe_bl) (dkNd _ _ _ _ (u64 hr)))
    (pss_one (ps_ret (pe_callTy call_tuple_of (by rfl) T.f_tuple (by decide +kernel) (pa_cons (pe_sortedK rfl (cal_clause_key T) hr (by decide) rfl T.f_sorted rfl (pv 1)) pa_nil))))), fun as d h k σ R => ?_⟩
  obtain ⟨cs, rfl, hl, rfl⟩ := h
  refine sq (s_dcN (xs := cs) (enc := dC) (vf := fun _ => .bool true) R (e1_r R rfl) (Nat.le_trans hl.1 (by decide)) nk_dC nk_depth (fun c => ⟨_, rfl⟩) (fun n x hx σ1 H1 R1 e1 => ⟨et_v R1 rfl, et_bl⟩) fun p σ1 H1 es _ he R1 => ?_)
  have hm : ∀ x ∈ dedup [] cs, x ∈ cs := fun x hx => by rcases mem_dedup.mp hx with h | h; cases h; exact h
  exact s_retT R1 (et_tupleL (el_sortKN (xs := dedup [] cs) (enc := dC) (key := clKey) R1 (i := 1) rfl he (by have := dedup_len cs []; have := hl.1; simp at *; omega) nk_depth (alike_clKey _) (fun x _ => ⟨_, rfl⟩) (fun x _ => depth_clKey x) fun x hx => ⟨x, rfl, hl.2 x (hm x hx), rfl⟩).e1) k
abbrev Nvariables_of : List Str := ["residue", "there", "clause", "literal"]
theorem sc_variables_of : FnScope Nvariables_of ["residue"] (defScope sQvariables_of) := ⟨rfl, rfl, rfl, by decide +kernel, rfl, by decide +kernel, by decide +kernel⟩
theorem cal_variables_of (T : Tx K mg base) : Cal P w K mg base 1 "variables_of" (spT K Pvariables_of) [] := by
  have sc := sc_variables_of
  refine cal_t T 8 8 rfl rfl sc (fun _ _ _ _ _ _ us hl => match us, hl with | [_], _ => rfl) (fun as d h => ?_) (by decide) fun cdv A outer s H Q E hr => ?_
  · (first | (obtain ⟨_, rfl, _⟩ := h; rfl) | (obtain ⟨_, _, rfl, _⟩ := h; rfl) | (obtain ⟨_, _, _, rfl, _⟩ := h; rfl) | (obtain ⟨_, _, _, _, rfl, _⟩ := h; rfl) | (obtain ⟨_, _, _, _, _, rfl, _⟩ := h; rfl) | (obtain ⟨_, _, _, _, _, _, rfl, _⟩ := h; rfl))
  refine ⟨_, (pss_cons (ps_set (i := 1) sc.nd rfl (by first | exact Or.inl rfl | exact Or.inr rfl) pe_dnewK)
    (pss_cons (ps_for PassesOwn.never rfl (pi_tup (pv 0)) (pg_name (i := 2) sc.nd rfl (by first | exact Or.inl rfl | exact Or.inr rfl))
      (pss_one (ps_for PassesOwn.never rfl (pi_tup (pv 2)) (pg_name (i := 3) sc.nd rfl (by first | exact Or.inl rfl | exact Or.inr rfl))
        (pss_one (ps_dput (hu_of hr) (pv 1) (pe_callB call_abs (by rfl) T.f_abs (by decide +kernel) (pa_cons (pv 3) pa_nil)) pe_bl rfl)))))
    (pss_one (ps_ret (pe_callTy call_tuple_of (by rfl) T.f_tuple (by decide +kernel) (pa_cons (pe_callB (call_sortedDI rfl) (by rfl) T.f_sorted (by decide +kernel) (pa_cons (pv 1) pa_nil)) pa_nil)))))), fun as d h k σ R => ?_⟩
  obtain ⟨Rs, rfl, h1, h2, rfl⟩ := h
  refine sq (s_setW R ew_nil fun p σ1 H1 _ R1 => ?_)
  refine sq (s_forP (xs := Rs) (enc := dC) R1 (et_v R1 rfl) (fun n => [.t (dR Rs), Sl.w p (.dk (dofI ((Rs.take n).flatten.map fun l => (iabs l, .bool true)))), .any, .any]) (fun _ _ => True) rfl (fun _ _ => trivial) (fun Hm n x v σ2 H2 hx R2 _ _ tv => ?_) fun σ2 H2 R2 _ => ?_)
  · refine g_name R2 tv fun σ3 R3 => ?_
    have hlen : ∀ m, (dofI (((Rs.take n).flatten ++ x.take m).map fun l => (iabs l, PyData.bool true))).length ≤ 100000 := fun m => by
      refine Nat.le_trans (dofI_len _ []) ?_
      have e : Rs.flatten.length = (Rs.take n).flatten.length + (Rs.drop n).flatten.length := by rw [← List.length_append, ← List.flatten_append, List.take_append_drop]
      have hx2 : x ∈ Rs.drop n := by
        refine List.mem_of_getElem? (i := 0) ?_
        rw [List.getElem?_drop]
        simpa using hx
      have hx3 : x.length ≤ (Rs.drop n).flatten.length := by
        rw [List.length_flatten]
        exact le_sum (List.mem_map.mpr ⟨x, hx2, rfl⟩)
      have := List.length_take_le' m x
      rw [List.length_nil, List.length_map, List.length_append]
      omega
    refine s_forP (xs := x) (enc := .int) R3 (et_v R3 rfl) (fun m => [.t (dR Rs), Sl.w p (.dk (dofI (((Rs.take n).flatten ++ x.take m).map fun l => (iabs l, .bool true)))), .t (dC x), .any]) (fun _ _ => True) (by simp) (fun _ _ => trivial) (fun Hn m l v σ4 H4 hl R4 _ _ tv => ?_) fun σ4 H4 R4 _ => ?_
    · refine g_name R4 tv fun σ5 R5 => ?_
      refine s_dput R5 rfl et_bl (fun H' R' _ => et_abs (et_v R' rfl)) (hlen m) fun H6 R6 => ⟨(R6.forget 3).eq ?_, trivial⟩
      have e : dofI (((Rs.take n).flatten ++ x.take (m + 1)).map fun l => (iabs l, PyData.bool true)) = dput (dofI (((Rs.take n).flatten ++ x.take m).map fun l => (iabs l, .bool true))) (.inl (if l < 0 then -l else l)) (.bool true) := by
        rw [List.take_add_one, hl, ← List.append_assoc, List.map_append]
        unfold dofI
        rw [List.foldl_append]
        rfl
      rw [e]
      rfl
    · refine ⟨((R4.forget 2)).eq ?_, trivial⟩
      have e : (Rs.take (n + 1)).flatten = (Rs.take n).flatten ++ x := by rw [List.take_add_one, hx, List.flatten_append]; simp
      rw [List.take_length, e]
      rfl
  · rw [List.take_length] at R2
    have ek : (dofI (Rs.flatten.map fun l => (iabs l, PyData.bool true))).map (·.1) = (dedup [] (Rs.flatten.map iabs)).map .inl := by rw [dofI_keys, List.map_map]; rfl
    exact s_retT R2 (et_tupleL (el_sortedD (dk_w R2 rfl) ek (by have := (sortI_perm (dedup [] (Rs.flatten.map iabs))).length_eq; unfold varsOf at h2; omega)).e1) k
abbrev Nweight_of : List Str := ["weights", "literal", "item", "weight"]
theorem sc_weight_of : FnScope Nweight_of ["weights", "literal"] (defScope sQweight_of) := ⟨rfl, rfl, rfl, by decide +kernel, rfl, by decide +kernel, by decide +kernel⟩
theorem cal_weight_of (T : Tx K mg base) : Cal P w K mg base 1 "weight_of" (spT K Pweight_of) [] := by
  have sc := sc_weight_of
  refine cal_t T 10 10 rfl rfl sc (fun _ _ _ _ _ _ us hl => match us, hl with | [_, _], _ => rfl) (fun as d h => ?_) (by decide) fun cdv A outer s H Q E hr => ?_
  · (first | (obtain ⟨_, rfl, _⟩ := h; rfl) | (obtain ⟨_, _, rfl, _⟩ := h; rfl) | (obtain ⟨_, _, _, rfl, _⟩ := h; rfl) | (obtain ⟨_, _, _, _, rfl, _⟩ := h; rfl) | (obtain ⟨_, _, _, _, _, rfl, _⟩ := h; rfl) | (obtain ⟨_, _, _, _, _, _, rfl, _⟩ := h; rfl))
  refine ⟨_, (pss_cons (ps_for PassesOwn.never rfl (pi_tup (pv 0)) (pg_tup rfl (pgs_cons (pg_name (i := 2) sc.nd rfl (by first | exact Or.inl rfl | exact Or.inr rfl)) (pgs_cons (pg_name (i := 3) sc.nd rfl (by first | exact Or.inl rfl | exact Or.inr rfl)) pgs_nil)))
      (pss_one (ps_if (pt_cmpR op_eq (pv 2) (pv 1) (nomark _))
        (pss_one (ps_ret (pv 3)))
        pss_nil)))
    (pss_one (ps_ret (pe_tup (pa_cons pe_int (pa_cons pe_int pa_nil)))))), fun as d h k σ R => ?_⟩
  obtain ⟨ls, l, rfl, rfl⟩ := h
  refine sq (s_forP (xs := ls) (enc := fun l => .tuple [.int l, fr 0]) R (et_v R rfl) (fun n => [.t (dW ls), .t (.int l), .any, .any]) (fun n _ => (ls.take n).contains l = false) rfl (fun _ _ => rfl) (fun Hm n x v σ2 H2 hx R2 hφ _ tv => ?_) fun σ2 H2 R2 hφ => ?_)
  · refine g_pair R2 tv fun σ3 R3 => ?_
    refine s_if (eb_t (et_eqI (et_v R3 rfl) (et_v R3 rfl))) (fun hb H3 e3 => ?_) fun hb H3 e3 => ?_
    · have hx' : x = l := by simpa using hb
      have hc : ls.contains l = true := by rw [← hx']; simpa using List.mem_of_getElem? hx
      rw [hc] at k
      exact s_retT (R3.same e3) (et_v (R3.same e3) rfl) k
    · have hx' : ¬ x = l := by simpa using hb
      refine ⟨(((R3.same e3).forget 2).forget 3).eq rfl, ?_⟩
      rw [List.take_add_one, hx]
      have : ¬ l = x := fun z => hx' z.symm
      simp at hφ ⊢
      exact ⟨hφ, this⟩
  · rw [List.take_length] at hφ
    rw [hφ] at k
    exact s_retT R2 (et_tup (ds := [_, _]) (ea_t et_int (ea_t et_int ea_nil))) k
end
end CW

set_option maxRecDepth 100000
set_option maxHeartbeats 4000000
/-! residues, chains: the walks. -/
namespace CW
open PySem PySem.Spec PyProof.Rows L2
open C8 (Cal Met Mak pe_c pe_mk pe_mt pe_mt0)
/-! ### results that are told by a word -/
inductive Rz where
  | t (d : PyData)
  | w (c : Ct)
  /-- (data, an own object) -/
  | pw (d : PyData) (c : Ct)
def RzOk (K : PySem.W.Frag) (H H' : Hp) (v : V) : Rz → Prop
  | .t d => Td K H' v d
  | .w c => ∃ p o, v = .ref p ∧ H p = none ∧ H' p = some o ∧ CtOk K H' c o
  | .pw d c => ∃ a x q o, v = .ref a ∧ TuA K H' a [x, .ref q] ∧ Td K H' x d ∧ H q = none ∧ H' q = some o ∧ CtOk K H' c o
def spR (K : PySem.W.Frag) (Pre : List Ar → Prop) (Post : List Ar → Rz → Prop) : Sp := fun vs H Q _ => ∃ as, Ars K H vs as ∧ Pre as ∧ ∀ r v H', Post as r → Same H H' → RzOk K H H' v r → Q v H'
def EX (K : PySem.W.Frag) (te : TE) (σ : L2.St) (H : Hp) (Φ : Rz → Prop) : Prop := ∀ H1, Same H H1 → ∀ Q : VK, (∀ r v H2, Φ r → Same H1 H2 → RzOk K H1 H2 v r → Q v H2) → te σ H1 Q
section
variable {K : PySem.W.Frag} {H0 Hk H H' : Hp} {σ : L2.St} {Γ : List Sl} {te ta tb tc : TE} {tr : TA} {d e x : PyData} {ds es : List PyData} {as : List Ar} {i j : Nat} {n m : Int} {Φ : Rz → Prop} {D : Ends} {c : Ct} {p : Addr}
theorem ex_call {Pre : List Ar → Prop} {Post : List Ar → Rz → Prop} {E : XK} (h : EA K tr σ H as) (p : Pre as) : EX K (tCall (spR K Pre Post) [] E tr) σ H (Post as) := fun H1 e Q k =>
  h H1 e _ fun vs H2 e2 h2 => ⟨as, by rw [List.append_nil]; exact h2, p, fun r v H' hr e3 h3 => k r v H' hr (e2.trans e3) (by
    cases r with
    | t d => exact h3
    | w c =>
      obtain ⟨p, o, h4, h5, h6⟩ := h3
      exact ⟨p, o, h4, e2.free h5, h6⟩
    | pw d c =>
      obtain ⟨a, x, q, o, h4, h5, h6, h7, h8⟩ := h3
      exact ⟨a, x, q, o, h4, h5, h6, e2.free h7, h8⟩)⟩
theorem et_ex0 (h : EX K te σ H (fun r => r = .pw d c)) : ET K (tOp (rIxT K) te (tC (.int 0))) σ H d := fun H1 e Q k =>
  h H1 e _ fun r v H2 hr e2 q => by
    subst hr
    obtain ⟨a, x, q, o, rfl, h5, h6, _⟩ := q
    exact ⟨a, [x, .ref q], 0, x, rfl, rfl, h5.sq, rfl, k x H2 e2 h6⟩
/-- x, y = f(..), y a list of ours -/
theorem s_pairW (R : Rel K H0 Hk H σ Γ) (h : EX K te σ H (fun r => r = .pw d c)) (hij : i ≠ j) (k : ∀ q σ' H', Same H H' → Rel K H0 Hk H' σ' ((Γ.set i (.t d)).set j (Sl.w q c)) → D.nx σ' H') : tAsg te (gTup K 2 (gCons (gName i) (gCons (gName j) gNil))) D σ H :=
  h H (.refl _) _ fun r v H2 hr e2 q => by
    subst hr
    obtain ⟨a, x, q, o, rfl, h5, h6, h7, h8, h9⟩ := q
    refine ⟨a, [x, .ref q], rfl, h5.sq, rfl, x, [.ref q], rfl, .ref q, [], rfl, rfl, k q _ H2 e2 ?_⟩
    have R1 := (R.set_w j e2 h7 h8 h9).set_t i h6
    rw [List.set_comm _ _ hij.symm, List.set_comm _ _ hij.symm] at R1
    exact R1
theorem s_retPW {Q : VK} {nx bk ct : L2.St → Hp → Prop} (R : Rel K H0 Hk H σ Γ) (hd : ET K te σ H d) (h : Γ[j]? = some (Sl.w p c)) (k : ∀ v H', Same H0 H' → RzOk K H0 H' v (.pw d c) → Q v H') : tRet (tTup (tCons te (tCons (tVar j) tNil))) ⟨nx, Q, bk, ct⟩ σ H :=
  hd H (.refl _) _ fun x H2 e2 t2 => by
    have R2 := R.same e2
    obtain ⟨h1, h2, o, h3, h5⟩ := R2.sl j _ h
    refine ⟨_, h1, sz1000 (by simp), fun l hl => k _ _ (R2.base.trans (same_upd hl)) ⟨l, x, p, o, rfl, .inl upd_same, t2.same (same_upd hl), h2, (same_upd hl) _ _ h3, h5.k (keep_same (same_upd hl))⟩⟩
end
section
variable {P : Program} {w : World} {K : PySem.W.Frag} {mg : Str → Option Value} {base : Heap}
theorem cal_r (T : Tx K mg base) (i j : Nat) {x : Str} {st : Stmt} {N ps : List Str} {k : Nat} {Pre : List Ar → Prop} {Post : List Ar → Rz → Prop} (h : CW.fn[i]? = some ⟨(x, none), x, x, defArgs st, defBody st, defScope st, [], []⟩) (hg : CW.fa[j]? = some (.glo x)) (S : FnScope N ps (defScope st))
    (hb : ∀ (kV doc pm : Value) (an : Option Addr) (cdv ct : Value) (us : List Value), us.length = ps.length → bindArgs (PySem.W.fnOf x x (defArgs st) (defBody st) (defScope st) .none kV doc pm an cdv ct) ⟨us, []⟩ = pure (ps.zip us))
    (hl : ∀ as, Pre as → as.length = ps.length) (hlN : ps.length ≤ N.length)
    (hbody : ∀ (cdv : Value) (A : Around) (outer : List Env) (s : Shared) (H : Hp) (Q : VK) (E : XK), Room k (A.deeper (envOfC x (defScope st) s.heap.objs.size (He.ga K x) cdv)) →
      ∃ t, PSs (cxOf CX0 P w K mg base N x (defScope st) (He.ga K x) cdv A outer s H E).nox (defBody st) t ∧ ∀ as, Pre as → (∀ r v H', Post as r → Same H H' → RzOk K H H' v r → Q v H') → ∀ σ, Rel K H H H σ (slots N as) → t { nx := fun _ H' => Q .non H', rt := Q } σ H) : Cal P w K mg base (k + 1) x (spR K Pre Post) [] := by
  refine cal_of T i j h hg S hb (fun vs H Q E ⟨as, h1, h2, _⟩ => by rw [ars_len h1, hl as h2]) fun cdv A outer s H vs Q E hr ⟨as, h1, h2, h3⟩ => ?_
  obtain ⟨t, q1, q2⟩ := hbody cdv A outer s H Q E hr
  exact ⟨t, q1, q2 as h2 h3 _ (rel_start h1 (by rw [hl as h2]; exact hlN))⟩
end
/-! ### mirrors -/
def hasE (R : Rs) : Bool := R.any fun c => decide (c = [])
def unitsOf (R : Rs) : List Int := sortL ((R.filter fun c => decide ((c.length : Int) = 1)).map fun c => c.headD 0)
def propF : Nat → Rs → Rs × List Int
  | 0, R => (R, [])
  | n + 1, R => if hasE R then ([[]], []) else match unitsOf R with
    | [] => (R, [])
    | u :: _ => ((propF n (under R u)).1, u :: (propF n (under R u)).2)
/-- propagate(R, []) -/
def prop (R : Rs) : Rs × List Int := propF (R.flatten.length + 1) R
def isWithin (a b : Cl) : Bool := decide ((a.length : Int) ≤ b.length) && a.all fun l => b.contains l
def lessened (R : Rs) : Rs := R.filter fun c => !(R.any fun o => (!decide (o = c)) && isWithin o c)
def shownOf (S : List Int) (R : Rs) : List Int := (varsOf R).filter fun v => S.contains v
def followsB (R : Rs) (c : Cl) : Bool := decide ((prop ((c.map fun l => -l).foldl under R)).1 = [[]])
def withRow (R : Rs) (c : Cl) : Rs := if R.any fun z => decide (z = c) then R else residueOf (R ++ [c])
/-! ### small -/
theorem undC_len {l : Int} {c c' : Cl} (h : undC l c = some c') : c'.length ≤ c.length := by
  unfold undC at h
  split at h
  · cases h
  · rw [← Option.some.inj h]
    split
    · exact List.length_filter_le _ _
    · exact Nat.le_refl _
theorem mem_residueOf {c : Cl} {cs : Rs} : c ∈ residueOf cs ↔ c ∈ cs := by
  unfold residueOf
  rw [(List.mergeSort_perm _ _).mem_iff, mem_dedup]
  simp
theorem len_residueOf (cs : Rs) : (residueOf cs).length ≤ cs.length := by
  unfold residueOf
  rw [(List.mergeSort_perm _ _).length_eq]
  simpa using dedup_len cs []
theorem sm_residueOf {cs : Rs} (h : Sm cs) : Sm (residueOf cs) := ⟨Nat.le_trans (len_residueOf cs) h.1, fun c hc => h.2 c (mem_residueOf.mp hc)⟩
theorem sm_fm {R : Rs} (l : Int) (h : Sm R) : Sm (R.filterMap (undC l)) := by
  refine ⟨Nat.le_trans (List.length_filterMap_le _ _) h.1, fun c hc => ?_⟩
  obtain ⟨c0, h0, h1⟩ := List.mem_filterMap.mp hc
  exact Nat.le_trans (undC_len h1) (h.2 c0 h0)
theorem sm_under {R : Rs} (l : Int) (h : Sm R) : Sm (under R l) := sm_residueOf (sm_fm l h)
theorem len_under (R : Rs) (l : Int) : (under R l).length ≤ R.length := Nat.le_trans (len_residueOf _) (List.length_filterMap_le _ _)
theorem sm_fold {ls : List Int} : ∀ {R : Rs}, Sm R → Sm (ls.foldl under R) := by
  induction ls with
  | nil => exact fun h => h
  | cons l ls ih => exact fun h => ih (sm_under l h)
/-! ### the walk of propagate ends -/
theorem sum_dedup {f : Cl → Nat} : ∀ (ys acc : Rs), ((dedup acc ys).map f).sum ≤ (acc.map f).sum + (ys.map f).sum
  | [], acc => by simp [dedup]
  | y :: ys, acc => by
    refine Nat.le_trans (sum_dedup ys _) ?_
    split
    · simp
    · simp; omega
theorem flat_residueOf (cs : Rs) : (residueOf cs).flatten.length ≤ cs.flatten.length := by
  unfold residueOf
  rw [List.length_flatten, List.length_flatten, ((List.mergeSort_perm _ _).map _).sum_nat]
  simpa using sum_dedup (f := List.length) cs []
theorem flat_fm (l : Int) : ∀ R : Rs, (R.filterMap (undC l)).flatten.length ≤ R.flatten.length
  | [] => Nat.le_refl _
  | c :: R => by
    have ih := flat_fm l R
    rw [List.filterMap_cons]
    cases h : undC l c with
    | none =>
      show (R.filterMap (undC l)).flatten.length ≤ (c ++ R.flatten).length
      rw [List.length_append]
      omega
    | some c' =>
      have := undC_len h
      show (c' ++ (R.filterMap (undC l)).flatten).length ≤ (c ++ R.flatten).length
      rw [List.length_append, List.length_append]
      omega
theorem flat_fm_lt {l : Int} : ∀ {R : Rs}, (∃ c ∈ R, l ∈ c) → (R.filterMap (undC l)).flatten.length < R.flatten.length
  | [], h => by obtain ⟨c, h, _⟩ := h; cases h
  | c :: R, h => by
    have ih := flat_fm l R
    rw [List.filterMap_cons]
    by_cases hc : l ∈ c
    · have : undC l c = none := by unfold undC; rw [if_pos (by simpa using hc)]
      rw [this]
      have : 0 < c.length := List.length_pos_of_mem hc
      show (R.filterMap (undC l)).flatten.length < (c ++ R.flatten).length
      rw [List.length_append]
      omega
    · have ih2 : (R.filterMap (undC l)).flatten.length < R.flatten.length := flat_fm_lt (by
        obtain ⟨z, hz, hl⟩ := h
        rcases List.mem_cons.mp hz with rfl | hz
        · exact absurd hl hc
        · exact ⟨z, hz, hl⟩)
      cases h : undC l c with
      | none =>
        show (R.filterMap (undC l)).flatten.length < (c ++ R.flatten).length
        rw [List.length_append]
        omega
      | some c' =>
        have := undC_len h
        show (c' ++ (R.filterMap (undC l)).flatten).length < (c ++ R.flatten).length
        rw [List.length_append, List.length_append]
        omega
theorem flat_under_lt {R : Rs} {l : Int} (h : ∃ c ∈ R, l ∈ c) : (under R l).flatten.length < R.flatten.length := Nat.lt_of_le_of_lt (flat_residueOf _) (flat_fm_lt h)
theorem flat_under (R : Rs) (l : Int) : (under R l).flatten.length ≤ R.flatten.length := Nat.le_trans (flat_residueOf _) (flat_fm l R)
theorem mem_unitsOf {R : Rs} {u : Int} : u ∈ unitsOf R ↔ [u] ∈ R := by
  unfold unitsOf sortL
  rw [(List.mergeSort_perm _ _).mem_iff, List.mem_map]
  constructor
  · rintro ⟨c, hc, rfl⟩
    obtain ⟨h1, h2⟩ := List.mem_filter.mp hc
    match c, h2 with
    | [x], _ => exact h1
    | [], h2 => simp at h2
    | _ :: _ :: _, h2 => simp at h2; omega
  · intro h
    exact ⟨[u], List.mem_filter.mpr ⟨h, by simp⟩, rfl⟩
theorem propF_more : ∀ (n : Nat) (R : Rs), R.flatten.length < n → ∀ m, n ≤ m → propF m R = propF n R
  | 0, _, h, _, _ => by omega
  | n + 1, R, h, 0, hm => by omega
  | n + 1, R, h, m + 1, hm => by
    unfold propF
    split
    · rfl
    · cases q : unitsOf R with
      | nil => rfl
      | cons u us =>
        have hu : [u] ∈ R := mem_unitsOf.mp (by rw [q]; exact List.mem_cons_self)
        have lt := flat_under_lt ⟨[u], hu, List.mem_singleton.mpr rfl⟩
        show ((propF m (under R u)).1, u :: (propF m (under R u)).2) = ((propF n (under R u)).1, u :: (propF n (under R u)).2)
        rw [propF_more n (under R u) (by omega) m (by omega)]
theorem prop_eq (R : Rs) : prop R = if hasE R then ([[]], []) else match unitsOf R with
    | [] => (R, [])
    | u :: _ => ((prop (under R u)).1, u :: (prop (under R u)).2) := by
  show propF (R.flatten.length + 1) R = _
  unfold propF
  split
  · rfl
  · cases q : unitsOf R with
    | nil => rfl
    | cons u us =>
      have hu : [u] ∈ R := mem_unitsOf.mp (by rw [q]; exact List.mem_cons_self)
      have lt := flat_under_lt ⟨[u], hu, List.mem_singleton.mpr rfl⟩
      show ((propF R.flatten.length (under R u)).1, u :: (propF R.flatten.length (under R u)).2) = ((propF ((under R u).flatten.length + 1) (under R u)).1, u :: (propF ((under R u).flatten.length + 1) (under R u)).2)
      rw [propF_more ((under R u).flatten.length + 1) (under R u) (by omega) R.flatten.length (by omega)]
theorem flat_fold : ∀ (ls : List Int) (R : Rs), (ls.foldl under R).flatten.length ≤ R.flatten.length
  | [], _ => Nat.le_refl _
  | l :: ls, R => Nat.le_trans (flat_fold ls (under R l)) (flat_under R l)
theorem map_int_inj : ∀ {a b : List Int}, a.map PyData.int = b.map .int → a = b
  | [], [], _ => rfl
  | [], _ :: _, h => by simp at h
  | _ :: _, [], h => by simp at h
  | x :: a, y :: b, h => by
    rw [List.map_cons, List.map_cons] at h
    injection h with h1 h2
    injection h1 with h1
    rw [h1, map_int_inj h2]
theorem dC_inj {a b : Cl} (h : dC a = dC b) : a = b := map_int_inj (by unfold dC at h; injection h)
theorem dR_inj {a b : Rs} (h : dR a = dR b) : a = b := by
  unfold dR at h
  injection h with h
  exact go h
where go : ∀ {a b : Rs}, a.map dC = b.map dC → a = b
  | [], [], _ => rfl
  | [], _ :: _, h => by simp at h
  | _ :: _, [], h => by simp at h
  | x :: a, y :: b, h => by
    rw [List.map_cons, List.map_cons] at h
    injection h with h1 h2
    rw [dC_inj h1, go h2]
/-! ### promises -/
def Punits (as : List Ar) (d : PyData) : Prop := ∃ R : Rs, as = [.t (dR R)] ∧ Sm R ∧ d = dC (unitsOf R)
def Phas_empty (as : List Ar) (d : PyData) : Prop := ∃ R : Rs, as = [.t (dR R)] ∧ d = .bool (hasE R)
def Prepropagate (as : List Ar) : Prop := ∃ (R : Rs) (ls : List Int), as = [.t (dR R), .l (ls.map .int)] ∧ Sm R ∧ R.flatten.length ≤ 90000
def Popropagate (as : List Ar) (r : Rz) : Prop := ∃ (R : Rs) (ls : List Int), as = [.t (dR R), .l (ls.map .int)] ∧ r = .pw (dR (prop (ls.foldl under R)).1) (.lst ((prop (ls.foldl under R)).2.map .int))
def Pis_within (as : List Ar) (d : PyData) : Prop := ∃ a b : Cl, as = [.t (dC a), .t (dC b)] ∧ a.length ≤ 900 ∧ d = .bool (isWithin a b)
def Plessened (as : List Ar) (d : PyData) : Prop := ∃ R : Rs, as = [.t (dR R)] ∧ Sm R ∧ d = dR (lessened R)
def dF (S Hd : List Int) (R : Rs) : PyData := .tuple [dC S, dC Hd, dR R]
def Pshown_of (as : List Ar) (d : PyData) : Prop := ∃ (S Hd : List Int) (R0 R : Rs), as = [.t (dF S Hd R0), .t (dR R)] ∧ R.flatten.length ≤ 90000 ∧ (varsOf R).length < 64 ∧ d = dC (shownOf S R)
def Popposites (as : List Ar) (ds : List PyData) : Prop := ∃ c : Cl, as = [.t (dC c)] ∧ c.length ≤ 900 ∧ ds = (c.map fun l => -l).map .int
def Pfollows (as : List Ar) (d : PyData) : Prop := ∃ (R : Rs) (c : Cl), as = [.t (dR R), .t (dC c)] ∧ Sm R ∧ R.flatten.length ≤ 90000 ∧ c.length ≤ 900 ∧ d = .bool (followsB R c)
def Pwith_row (as : List Ar) (d : PyData) : Prop := ∃ (R : Rs) (c : Cl), as = [.t (dR R), .t (dC c)] ∧ R.length ≤ 800 ∧ Sm R ∧ c.length ≤ 900 ∧ d = dR (withRow R c)
section
variable {P : Program} {w : World} {K : PySem.W.Frag} {mg : Str → Option Value} {base : Heap}
theorem undC_in {l : Int} {c : Cl} (h : c.contains l = true) : undC l c = none := by unfold undC; rw [if_pos h]
theorem undC_out {l : Int} {c : Cl} (h : c.contains l = false) : undC l c = some (if c.contains (-l) then c.filter (fun z => z != -l) else c) := by unfold undC; rw [h]; rfl
theorem et_EMPTY (T : Tx K mg base) {σ : L2.St} {H : Hp} : ET K (tC (.ref (He.ga K "EMPTY"))) σ H (dR [[]]) := et_gt (T.v_EMPTY) fun H' => .cons (.tup (.inr T.v_emp) .nil) .nil
theorem filter_bne (l : Int) (c : Cl) : (c.filter fun z => !decide (z = -l)) = c.filter fun z => z != -l := by
  congr 1
theorem atI_hd {x : PyData} {xs : List PyData} : atI (x :: xs) 0 = some x := by
  have h : ixN (x :: xs).length 0 = some 0 := by
    unfold ixN
    rw [if_pos (Int.le_refl 0), if_pos (by simp)]
    rfl
  unfold atI
  rw [h]
  rfl
theorem ex_propagate {K : PySem.W.Frag} {H : Hp} {σ : L2.St} {tr : TA} {R : Rs} {ls : List Int} {E : XK} (h : EA K tr σ H [.t (dR R), .l (ls.map .int)]) (hS : Sm R) (hF : R.flatten.length ≤ 90000) :
    EX K (tCall (spR K Prepropagate Popropagate) [] E tr) σ H (fun r => r = .pw (dR (prop (ls.foldl under R)).1) (.lst ((prop (ls.foldl under R)).2.map .int))) := fun H1 e1 Q k =>
  ex_call h ⟨R, ls, rfl, hS, hF⟩ H1 e1 Q fun r v H2 ⟨R', ls', ea, er⟩ e2 h => k r v H2 (by
    have e1 : dR R = dR R' ∧ ls.map PyData.int = ls'.map .int := by simpa using ea
    rw [er, dR_inj e1.1, map_int_inj e1.2]) e2 h
abbrev Nunder : List Str := ["residue", "literal", "rows", "clause", "item"]
theorem sc_under : FnScope Nunder ["residue", "literal"] (defScope sQunder) := ⟨rfl, rfl, rfl, by decide +kernel, rfl, by decide +kernel, by decide +kernel⟩
theorem cal_under (T : Tx K mg base) : Cal P w K mg base 6 "under" (spT K Punder) [] := by
  have sc := sc_under
  refine cal_t T 9 9 rfl rfl sc (fun _ _ _ _ _ _ us hl => match us, hl with | [_, _], _ => rfl) (fun as d h => ?_) (by decide) fun cdv A outer s H Q E hr => ?_
  · (first | (obtain ⟨_, rfl, _⟩ := h; rfl) | (obtain ⟨_, _, rfl, _⟩ := h; rfl) | (obtain ⟨_, _, _, rfl, _⟩ := h; rfl) | (obtain ⟨_, _, _, _, rfl, _⟩ := h; rfl) | (obtain ⟨_, _, _, _, _, rfl, _⟩ := h; rfl) | (obtain ⟨_, _, _, _, _, _, rfl, _⟩ := h; rfl))
  refine ⟨_, (pss_cons (ps_set (i := 2) sc.nd rfl (by first | exact Or.inl rfl | exact Or.inr rfl) (pe_lst pa_nil))
    (pss_cons (ps_for PassesOwn.never rfl (pi_tup (pv 0)) (pg_name (i := 3) sc.nd rfl (by first | exact Or.inl rfl | exact Or.inr rfl))
      (pss_one (ps_if (pt_cmpR op_notIn_seq (pv 1) (pv 3) (by rfl))
        (pss_one (ps_if (pt_cmpR op_in_seq (pe_un un_neg (pv 1)) (pv 3) (by rfl))
          (pss_one (ps_expr (pe_bm PySem.F.plainAttrs_list PySem.F.slot_list_append PySem.F.type_list_append mt_append (pv 2) (pa_cons (pe_callTy call_tuple_of (by rfl) T.f_tuple (by decide +kernel) (pa_cons (pe_lc (own := [("item", 4)]) rfl sc.nd (pi_tup (pv 3)) (blkOk_by (own := [("item", 4)]) (N := Nunder) (sc := defScope sQunder) (by decide +kernel)) (fun _ _ _ _ _ => (pg_name (i := 4) sc.nd rfl (Or.inl rfl))) (fun _ _ _ _ _ => pts_one (pt_cmpR op_ne (pv 4) (pe_un un_neg (pv 1)) (nomark _))) (fun _ _ _ _ _ => (pv 4))) pa_nil)) pa_nil))))
          (pss_one (ps_expr (pe_bm PySem.F.plainAttrs_list PySem.F.slot_list_append PySem.F.type_list_append mt_append (pv 2) (pa_cons (pv 3) pa_nil))))))
        pss_nil)))
    (pss_one (ps_ret (pe_c (cal_residue_of T) hr (by decide) rfl (pa_cons (pv 2) pa_nil)))))), fun as d h k σ R => ?_⟩
  obtain ⟨Rs, l, rfl, hS, rfl⟩ := h
  refine sq (s_setL R el_nil fun p σ1 H1 _ R1 => ?_)
  refine sq (s_for R1 (fun n => [.t (dR Rs), .t (.int l), Sl.w p (.lst (((Rs.take n).filterMap (undC l)).map dC)), .any, .any]) (et_v R1 rfl) rfl (fun Hm n c σ2 H2 hc R2 => ?_) fun σ2 H2 R2 => ?_)
  · have et : (Rs.take (n + 1)).filterMap (undC l) = (Rs.take n).filterMap (undC l) ++ (undC l c).toList := by
      rw [List.take_add_one, hc, List.filterMap_append]
      cases q : undC l c <;> simp [q]
    have hcm : c ∈ Rs := List.mem_of_getElem? hc
    have hl : (((Rs.take n).filterMap (undC l)).map dC).length ≤ 100000 := by
      rw [List.length_map]
      refine Nat.le_trans (List.length_filterMap_le _ _) ?_
      have h1 := hS.1
      rw [List.length_take]
      omega
    refine s_if (eb_t (et_ninT (et_v R2 rfl) (et_v R2 rfl))) (fun hb H3 e3 => ?_) fun hb H3 e3 => ?_
    · have hb' : c.contains l = false := by simpa using hb
      have R3 := R2.same e3
      refine s_if (eb_t (et_inT (et_neg (et_v R3 rfl)) (et_v R3 rfl))) (fun hc H4 e4 => ?_) fun hc H4 e4 => ?_
      · have R4 := R3.same e4
        refine s_append R4 rfl (et_tupleL (el_compT (f := PyData.int) R4 (et_v R4 rfl) (Nat.le_trans (hS.2 c hcm) (by decide)) fun m z hz σ5 H5 R5 e5 => ⟨eb_t (et_neI (et_v R5 rfl) (et_neg (et_v R5 rfl))), fun _ => et_v R5 rfl⟩).e1) hl fun H5 R5 => ?_
        refine (R5.forget 3).eq ?_
        rw [et, undC_out hb', hc, filter_bne]
        simp [dC]
      · have R4 := R3.same e4
        refine s_append R4 rfl (et_v R4 rfl) hl fun H5 R5 => ?_
        refine (R5.forget 3).eq ?_
        rw [et, undC_out hb', hc]
        simp
    · have hb' : c.contains l = true := by simpa using hb
      exact ((R2.same e3).forget 3).eq (by rw [et, undC_in hb']; simp)
  · rw [List.take_length] at R2
    exact s_retT R2 (et_call (ea_cons (e1_w R2 rfl) ea_nil) ⟨_, rfl, sm_fm l hS, rfl⟩) k
abbrev Nunits : List Str := ["residue", "found", "clause"]
theorem sc_units : FnScope Nunits ["residue"] (defScope sQunits) := ⟨rfl, rfl, rfl, by decide +kernel, rfl, by decide +kernel, by decide +kernel⟩
theorem cal_units (T : Tx K mg base) : Cal P w K mg base 4 "units" (spT K Punits) [] := by
  have sc := sc_units
  refine cal_t T 11 11 rfl rfl sc (fun _ _ _ _ _ _ us hl => match us, hl with | [_], _ => rfl) (fun as d h => ?_) (by decide) fun cdv A outer s H Q E hr => ?_
  · (first | (obtain ⟨_, rfl, _⟩ := h; rfl) | (obtain ⟨_, _, rfl, _⟩ := h; rfl) | (obtain ⟨_, _, _, rfl, _⟩ := h; rfl) | (obtain ⟨_, _, _, _, rfl, _⟩ := h; rfl) | (obtain ⟨_, _, _, _, _, rfl, _⟩ := h; rfl) | (obtain ⟨_, _, _, _, _, _, rfl, _⟩ := h; rfl))
  refine ⟨_, (pss_cons (ps_setLc (i := 1) (own := [("clause", 2)]) rfl sc.nd rfl rfl (sw_true rfl rfl rfl (by decide +kernel)) (pi_tup (pv 0)) (blkOk_by (own := [("clause", 2)]) (N := Nunits) (sc := defScope sQunits) (by decide +kernel)) (fun _ _ _ _ _ => (pg_name (i := 2) sc.nd rfl (Or.inl rfl))) (fun _ _ _ _ _ => pts_one (pt_cmpR op_eq (pe_callB (k_len K rfl) (by rfl) T.f_len (by decide +kernel) (pa_cons (pv 2) pa_nil)) pe_int (nomark _))) (fun _ _ _ _ _ => (pe_ix (k_ix_tup K rfl) (pv 2) pe_int (fun _ _ => rfl))))
    (pss_one (ps_ret (pe_callTy call_tuple_of (by rfl) T.f_tuple (by decide +kernel) (pa_cons (pe_sortedK rfl (cal_literal_key T) hr (by decide) rfl T.f_sorted rfl (pv 1)) pa_nil))))), fun as d h k σ R => ?_⟩
  obtain ⟨Rs, rfl, hS, rfl⟩ := h
  refine sq (s_setL R (el_compT (xs := Rs) (enc := dC) (p := fun c => decide ((c.length : Int) = 1)) (f := fun c => .int (c.headD 0)) R (et_v R rfl) (Nat.le_trans hS.1 (by decide)) fun n c hc σ1 H1 R1 e1 => ⟨(eb_t (et_eqI (et_lenT (et_v R1 rfl)) et_int)).eq (by rw [List.length_map]), fun hp => ?_⟩) fun p σ1 H1 _ R1 => ?_)
  · match c, hp with
    | [x], _ => exact et_ixT (et_v R1 rfl) et_int rfl
    | [], h => simp at h
    | _ :: _ :: _, h => simp at h; omega
  · rw [show ((Rs.filter fun c => decide ((c.length : Int) = 1)).map fun c => PyData.int (c.headD 0)) = ((Rs.filter fun c => decide ((c.length : Int) = 1)).map fun c => c.headD 0).map .int by rw [List.map_map]; rfl] at R1
    refine s_retT R1 (et_tupleL (el_sortK (key := litKey) (e1_w R1 rfl) ?_ (alike_lits _) (fun x _ => lit_tuple x) (fun x _ => by rw [depth_litKey]; decide) fun x _ => ⟨x, rfl, rfl⟩).e1) k
    rw [List.length_map]
    exact Nat.le_trans (List.length_filter_le _ _) (Nat.le_trans hS.1 (by decide))
abbrev Nhas_empty : List Str := ["residue"]
theorem sc_has_empty : FnScope Nhas_empty ["residue"] (defScope sQhas_empty) := ⟨rfl, rfl, rfl, by decide +kernel, rfl, by decide +kernel, by decide +kernel⟩
theorem cal_has_empty (T : Tx K mg base) : Cal P w K mg base 1 "has_empty" (spT K Phas_empty) [] := by
  have sc := sc_has_empty
  refine cal_t T 12 12 rfl rfl sc (fun _ _ _ _ _ _ us hl => match us, hl with | [_], _ => rfl) (fun as d h => ?_) (by decide) fun cdv A outer s H Q E hr => ?_
  · (first | (obtain ⟨_, rfl, _⟩ := h; rfl) | (obtain ⟨_, _, rfl, _⟩ := h; rfl) | (obtain ⟨_, _, _, rfl, _⟩ := h; rfl) | (obtain ⟨_, _, _, _, rfl, _⟩ := h; rfl) | (obtain ⟨_, _, _, _, _, rfl, _⟩ := h; rfl) | (obtain ⟨_, _, _, _, _, _, rfl, _⟩ := h; rfl))
  refine ⟨_, (pss_one (ps_ret (pe_cmpR (op_inT (u65 hr)) (pe_tup pa_nil) (pv 0) (by rfl)))), fun as d h k σ R => ?_⟩
  obtain ⟨Rs, rfl, rfl⟩ := h
  refine s_retT R (ET.eq (et_inTD (d := dC []) (et_tup (ds := []) ea_nil) (et_v R rfl) (shp_dC []).shaped (shp_dR Rs).shaped) ?_) k
  rw [List.any_map]
  unfold hasE
  simp only [Function.comp_def, eqv_dC, Bool.false_bne, Bool.false_xor]
abbrev Npropagate : List Str := ["residue", "literals", "literal", "found", "row"]
theorem sc_propagate : FnScope Npropagate ["residue", "literals"] (defScope sQpropagate) := ⟨rfl, rfl, rfl, by decide +kernel, rfl, by decide +kernel, by decide +kernel⟩
theorem cal_propagate (T : Tx K mg base) : Cal P w K mg base 7 "propagate" (spR K Prepropagate Popropagate) [] := by
  have sc := sc_propagate
  refine cal_r T 13 13 rfl rfl sc (fun _ _ _ _ _ _ us hl => match us, hl with | [_, _], _ => rfl) (fun as h => ?_) (by decide) fun cdv A outer s H Q E hr => ?_
  · (first | (obtain ⟨_, rfl, _⟩ := h; rfl) | (obtain ⟨_, _, rfl, _⟩ := h; rfl) | (obtain ⟨_, _, _, rfl, _⟩ := h; rfl) | (obtain ⟨_, _, _, _, rfl, _⟩ := h; rfl) | (obtain ⟨_, _, _, _, _, rfl, _⟩ := h; rfl) | (obtain ⟨_, _, _, _, _, _, rfl, _⟩ := h; rfl))
  refine ⟨_, (pss_cons (ps_for PassesOwn.never rfl (pi_list (pv 1)) (pg_name (i := 2) sc.nd rfl (by first | exact Or.inl rfl | exact Or.inr rfl))
      (pss_one (ps_set (i := 0) sc.nd rfl (by first | exact Or.inl rfl | exact Or.inr rfl) (pe_c (cal_under T) hr (by decide) rfl (pa_cons (pv 0) (pa_cons (pv 2) pa_nil))))))
    (pss_cons (ps_set (i := 3) sc.nd rfl (by first | exact Or.inl rfl | exact Or.inr rfl) (pe_lst pa_nil))
    (pss_cons (ps_while PassesOwn.never (pt_not (pt_val (pe_c (cal_has_empty T) hr (by decide) rfl (pa_cons (pv 0) pa_nil))))
      (pss_cons (ps_set (i := 4) sc.nd rfl (by first | exact Or.inl rfl | exact Or.inr rfl) (pe_c (cal_units T) hr (by decide) rfl (pa_cons (pv 0) pa_nil)))
      (pss_cons (ps_if (pt_cmpR (op_eqD (u64 hr)) (pv 4) (pe_tup pa_nil) (nomark _))
        (pss_one (ps_ret (pe_tup (pa_cons (pv 0) (pa_cons (pv 3) pa_nil)))))
        pss_nil)
      (pss_cons (ps_expr (pe_bm PySem.F.plainAttrs_list PySem.F.slot_list_append PySem.F.type_list_append mt_append (pv 3) (pa_cons (pe_ix ix_tup (pv 4) pe_int (fun _ _ => rfl)) pa_nil)))
      (pss_one (ps_set (i := 0) sc.nd rfl (by first | exact Or.inl rfl | exact Or.inr rfl) (pe_c (cal_under T) hr (by decide) rfl (pa_cons (pv 0) (pa_cons (pe_ix ix_tup (pv 4) pe_int (fun _ _ => rfl)) pa_nil)))))))))
    (pss_one (ps_ret (pe_tup (pa_cons (pe_glob (v := .ref (He.ga K "EMPTY")) rfl T.g_EMPTY rfl) (pa_cons (pv 3) pa_nil)))))))), fun as h k σ R => ?_⟩
  obtain ⟨Rs, ls, rfl, hS, hF⟩ := h
  refine sq (s_forR (xs := ls) (enc := .int) R (i := 1) rfl (fun n => [.t (dR ((ls.take n).foldl under Rs)), .r (ls.map .int), .any, .any, .any]) (fun _ _ => True) rfl trivial (fun Hm n l v σ1 H1 hl R1 _ _ tv => ?_) fun σ1 H1 R1 _ => ?_)
  · refine g_name R1 tv fun σ2 R2 => ?_
    refine s_set R2 (et_call (ea_t (et_v R2 rfl) (ea_t (et_v R2 rfl) ea_nil)) ⟨_, l, rfl, sm_fold hS, rfl⟩) fun σ3 H3 _ R3 => ⟨(R3.forget 2).eq ?_, trivial⟩
    rw [List.take_add_one, hl, Option.toList_some, List.foldl_append]
    rfl
  rw [List.take_length] at R1
  have hS1 : Sm (ls.foldl under Rs) := sm_fold hS
  have k' : ∀ v H', Same H H' → RzOk K H H' v (.pw (dR (prop (ls.foldl under Rs)).1) (.lst ((prop (ls.foldl under Rs)).2.map .int))) → Q v H' := fun v H' e h => k _ v H' ⟨Rs, ls, rfl, rfl⟩ e h
  have hF1 : (ls.foldl under Rs).flatten.length ≤ 90000 := Nat.le_trans (flat_fold ls Rs) hF
  generalize ls.foldl under Rs = R0 at R1 hS1 k' hF1
  refine sq (s_setL R1 el_nil fun p σ2 H2 _ R2 => ?_)
  refine sq (s_while (ι := CW.Rs × List Int) (fun z _ σ' H' => Rel K H H H' σ' [.t (dR z.1), .r (ls.map .int), .any, Sl.w p (.lst (z.2.map .int)), .any] ∧ Sm z.1 ∧ z.2.length + z.1.flatten.length ≤ 90000 ∧ prop R0 = ((prop z.1).1, z.2 ++ (prop z.1).2)) (fun z => z.1.flatten.length) (z0 := (R0, [])) ⟨R2, hS1, by simpa using hF1, rfl⟩ fun z σ3 H3 ⟨R3, h3, hz3, e3⟩ => ⟨!hasE z.1, eb_not (eb_t (et_call (ea_t (et_v R3 rfl) ea_nil) ⟨z.1, rfl, rfl⟩)), fun hb H4 e4 => ?_, fun hb H4 e4 => ?_⟩)
  · have hb' : hasE z.1 = false := by simpa using hb
    have pe := prop_eq z.1
    rw [if_neg (by rw [hb']; exact Bool.false_ne_true)] at pe
    have R4 := R3.same e4
    refine sq (s_set R4 (et_call (ea_t (et_v R4 rfl) ea_nil) ⟨z.1, rfl, h3, rfl⟩) fun σ5 H5 _ R5 => ?_)
    refine sq (s_if (b := decide (unitsOf z.1 = [])) (eb_t (ET.eq (et_eqD (d := dC (unitsOf z.1)) (e := dC []) (et_v R5 rfl) (et_tup (ds := []) ea_nil) (shp_dC _).shaped (shp_dC _).shaped) (by rw [eqv_dC]))) (fun hb H6 e6 => ?_) fun hb H6 e6 => ?_)
    · have hu : unitsOf z.1 = [] := by simpa using hb
      rw [hu] at pe
      rw [pe] at e3
      have R6 := R5.same e6
      refine s_retPW R6 (et_v R6 rfl) (j := 3) rfl fun v H' e h => k' v H' e ?_
      rw [e3]
      simpa using h
    · have hu : unitsOf z.1 ≠ [] := by simpa using hb
      have R6 := R5.same e6
      match q : unitsOf z.1, hu with
      | u :: us, _ =>
        rw [q] at pe R6
        have hm : [u] ∈ z.1 := mem_unitsOf.mp (by rw [q]; exact List.mem_cons_self)
        have lt := flat_under_lt ⟨[u], hm, List.mem_singleton.mpr rfl⟩
        refine sq (s_append R6 rfl (et_ixT (et_v R6 rfl) et_int (d := .int u) atI_hd) (by rw [List.length_map]; omega) fun H7 R7 => ?_)
        refine s_set R7 (et_call (ea_t (et_v R7 rfl) (ea_t (et_ixT (et_v R7 rfl) et_int (d := .int u) atI_hd) ea_nil)) ⟨z.1, u, rfl, h3, rfl⟩) fun σ8 H8 _ R8 => ⟨(under z.1 u, z.2 ++ [u]), lt, (R8.forget 4).eq (by simp), sm_under u h3, by simp; simp at lt hz3; omega, ?_⟩
        rw [e3, pe]
        simp
  · have hb' : hasE z.1 = true := by simpa using hb
    have pe := prop_eq z.1
    rw [if_pos hb'] at pe
    rw [pe] at e3
    have R4 := R3.same e4
    refine s_retPW R4 (et_EMPTY T) (j := 3) rfl fun v H' e h => k' v H' e ?_
    rw [e3]
    simpa using h
abbrev Nis_within : List Str := ["first", "second", "literal"]
theorem sc_is_within : FnScope Nis_within ["first", "second"] (defScope sQis_within) := ⟨rfl, rfl, rfl, by decide +kernel, rfl, by decide +kernel, by decide +kernel⟩
theorem cal_is_within (T : Tx K mg base) : Cal P w K mg base 1 "is_within" (spT K Pis_within) [] := by
  have sc := sc_is_within
  refine cal_t T 16 16 rfl rfl sc (fun _ _ _ _ _ _ us hl => match us, hl with | [_, _], _ => rfl) (fun as d h => ?_) (by decide) fun cdv A outer s H Q E hr => ?_
  · (first | (obtain ⟨_, rfl, _⟩ := h; rfl) | (obtain ⟨_, _, rfl, _⟩ := h; rfl) | (obtain ⟨_, _, _, rfl, _⟩ := h; rfl) | (obtain ⟨_, _, _, _, rfl, _⟩ := h; rfl) | (obtain ⟨_, _, _, _, _, rfl, _⟩ := h; rfl) | (obtain ⟨_, _, _, _, _, _, rfl, _⟩ := h; rfl))
  refine ⟨_, (pss_one (ps_ret (pe_and (pe_cmpR op_le (pe_callB call_len_seq (by rfl) T.f_len (by decide +kernel) (pa_cons (pv 0) pa_nil)) (pe_callB call_len_seq (by rfl) T.f_len (by decide +kernel) (pa_cons (pv 1) pa_nil)) (nomark _)) (pe_one (pe_callB (cr_all rfl) (by rfl) T.f_all (by decide +kernel) (pa_cons (pe_lc (own := [("literal", 2)]) rfl sc.nd (pi_tup (pv 0)) (blkOk_by (own := [("literal", 2)]) (N := Nis_within) (sc := defScope sQis_within) (by decide +kernel)) (fun _ _ _ _ _ => (pg_name (i := 2) sc.nd rfl (Or.inl rfl))) (fun _ _ _ _ _ => pts_nil) (fun _ _ _ _ _ => (pe_cmpR (k_in K rfl) (pv 2) (pv 1) (by rfl)))) pa_nil)))))), fun as d h k σ R => ?_⟩
  obtain ⟨a, b, rfl, hl, rfl⟩ := h
  refine s_retT R (ET.eq (et_andV (et_ib (et_lenT (et_v R rfl)) (et_lenT (et_v R rfl))) fun _ => et_all (bs := a.map fun l => b.contains l) (EL.e1 (EL.eq (el_mapT (xs := a) (enc := .int) (f := fun l => .bool (b.contains l)) R (et_v R rfl) (Nat.le_trans hl (by decide)) fun n l hx σ1 H1 R1 e1 => et_inT (et_v R1 rfl) (et_v R1 rfl)) (by rw [List.map_map]; rfl)))) ?_) k
  unfold isWithin
  rw [List.length_map, List.length_map, List.all_map]
  rfl
abbrev Nlessened : List Str := ["residue", "kept", "clause", "other"]
theorem sc_lessened : FnScope Nlessened ["residue"] (defScope sQlessened) := ⟨rfl, rfl, rfl, by decide +kernel, rfl, by decide +kernel, by decide +kernel⟩
theorem cal_lessened (T : Tx K mg base) : Cal P w K mg base 2 "lessened" (spT K Plessened) [] := by
  have sc := sc_lessened
  refine cal_t T 17 17 rfl rfl sc (fun _ _ _ _ _ _ us hl => match us, hl with | [_], _ => rfl) (fun as d h => ?_) (by decide) fun cdv A outer s H Q E hr => ?_
  · (first | (obtain ⟨_, rfl, _⟩ := h; rfl) | (obtain ⟨_, _, rfl, _⟩ := h; rfl) | (obtain ⟨_, _, _, rfl, _⟩ := h; rfl) | (obtain ⟨_, _, _, _, rfl, _⟩ := h; rfl) | (obtain ⟨_, _, _, _, _, rfl, _⟩ := h; rfl) | (obtain ⟨_, _, _, _, _, _, rfl, _⟩ := h; rfl))
  refine ⟨_, (pss_cons (ps_set (i := 1) sc.nd rfl (by first | exact Or.inl rfl | exact Or.inr rfl) (pe_lst pa_nil))
    (pss_cons (ps_for PassesOwn.never rfl (pi_tup (pv 0)) (pg_name (i := 2) sc.nd rfl (by first | exact Or.inl rfl | exact Or.inr rfl))
      (pss_one (ps_if (pt_not (pt_val (pe_callB (cr_any rfl) (by rfl) T.f_any (by decide +kernel) (pa_cons (pe_lc (own := [("other", 3)]) rfl sc.nd (pi_tup (pv 0)) (blkOk_by (own := [("other", 3)]) (N := Nlessened) (sc := defScope sQlessened) (by decide +kernel)) (fun _ _ _ _ _ => (pg_name (i := 3) sc.nd rfl (Or.inl rfl))) (fun _ _ _ _ _ => pts_nil) (fun _ _ _ _ _ => (pe_and (pe_cmpR (k_neD K rfl (u64 hr)) (pv 3) (pv 2) (nomark _)) (pe_one (pe_c (cal_is_within T) hr (by decide) rfl (pa_cons (pv 3) (pa_cons (pv 2) pa_nil))))))) pa_nil))))
        (pss_one (ps_expr (pe_bm PySem.F.plainAttrs_list PySem.F.slot_list_append PySem.F.type_list_append mt_append (pv 1) (pa_cons (pv 2) pa_nil))))
        pss_nil)))
    (pss_one (ps_ret (pe_callTy call_tuple_of (by rfl) T.f_tuple (by decide +kernel) (pa_cons (pv 1) pa_nil)))))), fun as d h k σ R => ?_⟩
  obtain ⟨Rs, rfl, hS, rfl⟩ := h
  refine sq (s_setL R el_nil fun p σ1 H1 _ R1 => ?_)
  refine sq (s_for R1 (fun n => [.t (dR Rs), Sl.w p (.lst (((Rs.take n).filter fun c => !(Rs.any fun o => (!decide (o = c)) && isWithin o c)).map dC)), .any, .any]) (et_v R1 rfl) rfl (fun Hm n c σ2 H2 hc R2 => ?_) fun σ2 H2 R2 => ?_)
  · have et : (Rs.take (n + 1)).filter (fun c => !(Rs.any fun o => (!decide (o = c)) && isWithin o c)) = (Rs.take n).filter (fun c => !(Rs.any fun o => (!decide (o = c)) && isWithin o c)) ++ if (!(Rs.any fun o => (!decide (o = c)) && isWithin o c)) = true then [c] else [] := by
      rw [List.take_add_one, hc, List.filter_append]
      cases q : (!(Rs.any fun o => (!decide (o = c)) && isWithin o c)) <;> simp [q]
    have hl : (((Rs.take n).filter fun c => !(Rs.any fun o => (!decide (o = c)) && isWithin o c)).map dC).length ≤ 100000 := by
      rw [List.length_map]
      refine Nat.le_trans (List.length_filter_le _ _) ?_
      have h1 := hS.1
      rw [List.length_take]
      omega
    refine s_if (eb_not (b := Rs.any fun o => (!decide (o = c)) && isWithin o c) (eb_t (ET.eq (et_any (bs := Rs.map fun o => (!decide (o = c)) && isWithin o c) (EL.e1 (EL.eq (el_mapT (xs := Rs) (enc := dC) (f := fun o => .bool ((!decide (o = c)) && isWithin o c)) R2 (et_v R2 rfl) (Nat.le_trans hS.1 (by decide)) fun m o ho σ3 H3 R3 e3 => et_andV (ET.eq (et_neD (et_v R3 rfl) (et_v R3 rfl) (shp_dC o).shaped (shp_dC c).shaped) (by rw [eqv_dC])) fun _ => et_call (ea_t (et_v R3 rfl) (ea_t (et_v R3 rfl) ea_nil)) ⟨o, c, rfl, hS.2 o (List.mem_of_getElem? ho), rfl⟩) (by rw [List.map_map]; rfl)))) (by rw [List.any_map]; rfl)))) (fun hb H3 e3 => ?_) fun hb H3 e3 => ?_
    · have R3 := R2.same e3
      refine s_append R3 rfl (et_v R3 rfl) hl fun H4 R4 => (R4.forget 2).eq ?_
      rw [et, if_pos hb, List.map_append]
      rfl
    · refine ((R2.same e3).forget 2).eq ?_
      rw [et, if_neg (by rw [hb]; exact Bool.false_ne_true), List.append_nil]
      rfl
  · rw [List.take_length] at R2
    exact s_retT R2 (et_tupleL (e1_w R2 rfl)) k
abbrev Nshown_of : List Str := ["formula", "residue", "v"]
theorem sc_shown_of : FnScope Nshown_of ["formula", "residue"] (defScope sQshown_of) := ⟨rfl, rfl, rfl, by decide +kernel, rfl, by decide +kernel, by decide +kernel⟩
theorem cal_shown_of (T : Tx K mg base) : Cal P w K mg base 2 "shown_of" (spT K Pshown_of) [] := by
  have sc := sc_shown_of
  refine cal_t T 18 18 rfl rfl sc (fun _ _ _ _ _ _ us hl => match us, hl with | [_, _], _ => rfl) (fun as d h => ?_) (by decide) fun cdv A outer s H Q E hr => ?_
  · (first | (obtain ⟨_, rfl, _⟩ := h; rfl) | (obtain ⟨_, _, rfl, _⟩ := h; rfl) | (obtain ⟨_, _, _, rfl, _⟩ := h; rfl) | (obtain ⟨_, _, _, _, rfl, _⟩ := h; rfl) | (obtain ⟨_, _, _, _, _, rfl, _⟩ := h; rfl) | (obtain ⟨_, _, _, _, _, _, rfl, _⟩ := h; rfl))
  refine ⟨_, (pss_one (ps_ret (pe_callTy call_tuple_of (by rfl) T.f_tuple (by decide +kernel) (pa_cons (pe_lc (own := [("v", 2)]) rfl sc.nd (pi_tup (pe_c (cal_variables_of T) hr (by decide) rfl (pa_cons (pv 1) pa_nil))) (blkOk_by (own := [("v", 2)]) (N := Nshown_of) (sc := defScope sQshown_of) (by decide +kernel)) (fun _ _ _ _ _ => (pg_name (i := 2) sc.nd rfl (Or.inl rfl))) (fun _ _ _ _ _ => pts_one (pt_cmpR (k_in K rfl) (pv 2) (pe_ix (k_ix_tup K rfl) (pv 0) pe_int (fun _ _ => rfl)) (by rfl))) (fun _ _ _ _ _ => (pv 2))) pa_nil)))), fun as d h k σ R => ?_⟩
  obtain ⟨S, Hd, R0, Rs, rfl, h1, h2, rfl⟩ := h
  refine s_retT R (ET.eq (et_tupleL (EL.e1 (el_compT (xs := varsOf Rs) (enc := .int) (p := fun v => S.contains v) (f := .int) R (et_call (ea_t (et_v R rfl) ea_nil) ⟨Rs, rfl, h1, h2, rfl⟩) (by omega) fun n v hv σ1 H1 R1 e1 => ⟨eb_t (et_inT (et_v R1 rfl) (et_ixT (et_v R1 rfl) et_int rfl)), fun _ => et_v R1 rfl⟩))) rfl) k
abbrev Nopposites : List Str := ["clause", "literal"]
theorem sc_opposites : FnScope Nopposites ["clause"] (defScope sQopposites) := ⟨rfl, rfl, rfl, by decide +kernel, rfl, by decide +kernel, by decide +kernel⟩
theorem cal_opposites (T : Tx K mg base) : Cal P w K mg base 1 "opposites" (spL K Popposites) [] := by
  have sc := sc_opposites
  refine cal_l T 39 39 rfl rfl sc (fun _ _ _ _ _ _ us hl => match us, hl with | [_], _ => rfl) (fun as d h => ?_) (by decide) fun cdv A outer s H Q E hr => ?_
  · (first | (obtain ⟨_, rfl, _⟩ := h; rfl) | (obtain ⟨_, _, rfl, _⟩ := h; rfl) | (obtain ⟨_, _, _, rfl, _⟩ := h; rfl) | (obtain ⟨_, _, _, _, rfl, _⟩ := h; rfl) | (obtain ⟨_, _, _, _, _, rfl, _⟩ := h; rfl) | (obtain ⟨_, _, _, _, _, _, rfl, _⟩ := h; rfl))
  refine ⟨_, (pss_one (ps_ret (pe_lc (own := [("literal", 1)]) rfl sc.nd (pi_tup (pv 0)) (blkOk_by (own := [("literal", 1)]) (N := Nopposites) (sc := defScope sQopposites) (by decide +kernel)) (fun _ _ _ _ _ => (pg_name (i := 1) sc.nd rfl (Or.inl rfl))) (fun _ _ _ _ _ => pts_nil) (fun _ _ _ _ _ => (pe_un un_neg (pv 1)))))), fun as d h k σ R => ?_⟩
  obtain ⟨c, rfl, hl, rfl⟩ := h
  exact s_retL R (EL.eq (el_mapT (xs := c) (enc := .int) (f := fun l => .int (-l)) R (et_v R rfl) (Nat.le_trans hl (by decide)) fun n l hx σ1 H1 R1 e1 => et_neg (et_v R1 rfl)) (by rw [List.map_map]; rfl)) k
abbrev Nfollows : List Str := ["residue", "clause"]
theorem sc_follows : FnScope Nfollows ["residue", "clause"] (defScope sQfollows) := ⟨rfl, rfl, rfl, by decide +kernel, rfl, by decide +kernel, by decide +kernel⟩
theorem cal_follows (T : Tx K mg base) : Cal P w K mg base 8 "follows" (spT K Pfollows) [] := by
  have sc := sc_follows
  refine cal_t T 40 40 rfl rfl sc (fun _ _ _ _ _ _ us hl => match us, hl with | [_, _], _ => rfl) (fun as d h => ?_) (by decide) fun cdv A outer s H Q E hr => ?_
  · (first | (obtain ⟨_, rfl, _⟩ := h; rfl) | (obtain ⟨_, _, rfl, _⟩ := h; rfl) | (obtain ⟨_, _, _, rfl, _⟩ := h; rfl) | (obtain ⟨_, _, _, _, rfl, _⟩ := h; rfl) | (obtain ⟨_, _, _, _, _, rfl, _⟩ := h; rfl) | (obtain ⟨_, _, _, _, _, _, rfl, _⟩ := h; rfl))
  refine ⟨_, (pss_one (ps_ret (pe_cmpR (op_eqD (u64 hr)) (pe_ix ix_tup (pe_c (cal_propagate T) hr (by decide) rfl (pa_cons (pv 0) (pa_cons (pe_c (cal_opposites T) hr (by decide) rfl (pa_cons (pv 1) pa_nil)) pa_nil))) pe_int (fun _ _ => rfl)) (pe_glob (v := .ref (He.ga K "EMPTY")) rfl T.g_EMPTY rfl) (nomark _)))), fun as d h k σ R => ?_⟩
  obtain ⟨Rs, c, rfl, hS, hF, hl, rfl⟩ := h
  refine s_retT R (ET.eq (et_eqD (d := dR (prop ((c.map fun l => -l).foldl under Rs)).1) (e := dR [[]]) (et_ex0 (ex_propagate (ea_t (et_v R rfl) (ea_cons (EL.e1 (el_call (ea_t (et_v R rfl) ea_nil) ⟨c, rfl, hl, rfl⟩)) ea_nil)) hS hF)) (et_EMPTY T) (shp_dR _).shaped (shp_dR _).shaped) ?_) k
  rw [eqv_dR]
  rfl
abbrev Nwith_row : List Str := ["residue", "clause"]
theorem sc_with_row : FnScope Nwith_row ["residue", "clause"] (defScope sQwith_row) := ⟨rfl, rfl, rfl, by decide +kernel, rfl, by decide +kernel, by decide +kernel⟩
theorem cal_with_row (T : Tx K mg base) : Cal P w K mg base 6 "with_row" (spT K Pwith_row) [] := by
  have sc := sc_with_row
  refine cal_t T 41 41 rfl rfl sc (fun _ _ _ _ _ _ us hl => match us, hl with | [_, _], _ => rfl) (fun as d h => ?_) (by decide) fun cdv A outer s H Q E hr => ?_
  · (first | (obtain ⟨_, rfl, _⟩ := h; rfl) | (obtain ⟨_, _, rfl, _⟩ := h; rfl) | (obtain ⟨_, _, _, rfl, _⟩ := h; rfl) | (obtain ⟨_, _, _, _, rfl, _⟩ := h; rfl) | (obtain ⟨_, _, _, _, _, rfl, _⟩ := h; rfl) | (obtain ⟨_, _, _, _, _, _, rfl, _⟩ := h; rfl))
  refine ⟨_, (pss_cons (ps_if (pt_cmpR (op_inT (u65 hr)) (pv 1) (pv 0) (by rfl))
      (pss_one (ps_ret (pv 0)))
      pss_nil)
    (pss_one (ps_ret (pe_c (cal_residue_of T) hr (by decide) rfl (pa_cons (pe_op op_cat (pe_callTy call_list_of (by rfl) T.f_list (by decide +kernel) (pa_cons (pv 0) pa_nil)) (pe_lst (pa_cons (pv 1) pa_nil))) pa_nil))))), fun as d h k σ R => ?_⟩
  obtain ⟨Rs, c, rfl, h1, hS, hl, rfl⟩ := h
  refine sq (s_if (eb_t (ET.eq (et_inTD (d := dC c) (ds := Rs.map dC) (et_v R rfl) (et_v R rfl) (shp_dC c).shaped (shp_dR Rs).shaped) (e := .bool (Rs.any fun z => decide (z = c))) (by rw [List.any_map]; simp only [Function.comp_def, eqv_dC, Bool.false_bne, Bool.false_xor]))) (fun hb H1 e1 => ?_) fun hb H1 e1 => ?_)
  · unfold withRow at k
    rw [if_pos hb] at k
    exact s_retT (R.same e1) (et_v (R.same e1) rfl) k
  · unfold withRow at k
    rw [if_neg (by rw [hb]; exact Bool.false_ne_true)] at k
    have R1 := R.same e1
    refine s_retT R1 (et_call (ea_cons (EL.e1 (el_cat (el_listT (et_v R1 rfl)) (el_lst (ds := [_]) (ea_t (et_v R1 rfl) ea_nil)) ?_)) ea_nil) ⟨Rs ++ [c], ?_, ⟨?_, ?_⟩, rfl⟩) k
    · simp; omega
    · simp
    · simp; omega
    · intro z hz
      rcases List.mem_append.mp hz with h | h
      · exact hS.2 z h
      · rw [List.mem_singleton.mp h]; exact hl
end
end CW

set_option maxRecDepth 100000
set_option maxHeartbeats 4000000
/-! joined_variables, parts_of: the walks. -/
namespace CW
open PySem PySem.Spec PyProof.Rows L2
open C8 (Cal Met Mak pe_c pe_mk pe_mt pe_mt0)
/-! ### leaders -/
def lm (L : Int → Int) (vs : List Int) : KD := vs.map fun v => (.inl v, .int (L v))
def setL (L : Int → Int) (v x : Int) : Int → Int := fun z => if z = v then x else L z
def sumL (L : Int → Int) (vs : List Int) : Nat := (vs.map fun v => (L v).toNat).sum
def minL : List Int → Int
  | [] => 0
  | x :: xs => xs.foldl min x
theorem minL_le : ∀ (xs : List Int) (x y : Int), (y = x ∨ y ∈ xs) → xs.foldl min x ≤ y
  | [], x, y, h => by
    rcases h with rfl | h
    · exact Int.le_refl _
    · cases h
  | z :: xs, x, y, h => by
    rw [List.foldl_cons]
    rcases h with rfl | h
    · exact Int.le_trans (minL_le xs _ _ (.inl rfl)) (by omega)
    · rcases List.mem_cons.mp h with rfl | h
      · exact Int.le_trans (minL_le xs _ _ (.inl rfl)) (by omega)
      · exact minL_le xs _ _ (.inr h)
theorem minL_mem : ∀ (xs : List Int) (x : Int), xs.foldl min x = x ∨ xs.foldl min x ∈ xs
  | [], x => .inl rfl
  | z :: xs, x => by
    rw [List.foldl_cons]
    rcases minL_mem xs (min x z) with h | h
    · by_cases q : x ≤ z
      · have : min x z = x := by omega
        rw [this] at h ⊢
        exact .inl h
      · have : min x z = z := by omega
        rw [this] at h ⊢
        exact .inr (by rw [h]; exact List.mem_cons_self)
    · exact .inr (List.mem_cons_of_mem _ h)
theorem minL_of {ns : List Int} {m : Int} (h : m ∈ ns) (hl : ∀ y ∈ ns, m ≤ y) : m = minL ns := by
  match ns, h with
  | x :: xs, h =>
    have h1 : minL (x :: xs) ≤ m := minL_le xs x m (List.mem_cons.mp h)
    have h2 : m ≤ minL (x :: xs) := hl _ (by
      rcases minL_mem xs x with q | q
      · show xs.foldl min x ∈ _
        rw [q]; exact List.mem_cons_self
      · exact List.mem_cons_of_mem _ q)
    omega
theorem minL_in {ns : List Int} (h : ns ≠ []) : minL ns ∈ ns := by
  match ns, h with
  | x :: xs, _ =>
    rcases minL_mem xs x with q | q
    · show xs.foldl min x ∈ _
      rw [q]; exact List.mem_cons_self
    · exact List.mem_cons_of_mem _ q
theorem minL_low {ns : List Int} {y : Int} (h : y ∈ ns) : minL ns ≤ y := by
  match ns, h with
  | x :: xs, h => exact minL_le xs x y (List.mem_cons.mp h)
theorem sum_le {f g : Int → Nat} : ∀ {vs : List Int}, (∀ v ∈ vs, f v ≤ g v) → (vs.map f).sum ≤ (vs.map g).sum
  | [], _ => Nat.le_refl _
  | v :: vs, h => by
    have h1 := h v List.mem_cons_self
    have h2 := sum_le (vs := vs) fun z hz => h z (List.mem_cons_of_mem _ hz)
    simp
    omega
theorem sum_lt {f g : Int → Nat} {v : Int} : ∀ {vs : List Int}, (∀ v ∈ vs, f v ≤ g v) → v ∈ vs → f v < g v → (vs.map f).sum < (vs.map g).sum
  | z :: vs, h, hm, hl => by
    have h1 := h z List.mem_cons_self
    have h2 := sum_le (vs := vs) fun z hz => h z (List.mem_cons_of_mem _ hz)
    rcases List.mem_cons.mp hm with rfl | hm
    · simp; omega
    · have := sum_lt (vs := vs) (fun z hz => h z (List.mem_cons_of_mem _ hz)) hm hl
      simp; omega
theorem sumL_set {L : Int → Int} {vs : List Int} {v x : Int} (hv : v ∈ vs) (hx : 0 ≤ x) (hl : x < L v) : sumL (setL L v x) vs < sumL L vs := by
  refine sum_lt (v := v) (fun z _ => ?_) hv ?_
  · show (setL L v x z).toNat ≤ (L z).toNat
    unfold setL
    split
    · subst_vars; omega
    · exact Nat.le_refl _
  · show (setL L v x v).toNat < (L v).toNat
    unfold setL
    rw [if_pos rfl]
    omega
theorem lm_val {L : Int → Int} : ∀ {vs : List Int} {v : Int}, v ∈ vs → dval (lm L vs) (.inl v) = some (.int (L v))
  | z :: vs, v, h => by
    unfold dval lm
    rw [List.map_cons, List.find?_cons]
    by_cases q : z = v
    · subst q
      rw [decide_eq_true rfl]
      rfl
    · have : ¬ (Sum.inl z : Key) = .inl v := fun e => q (Sum.inl.inj e)
      rw [decide_eq_false this]
      exact lm_val ((List.mem_cons.mp h).resolve_left fun e => q e.symm)
theorem lm_put {L : Int → Int} {vs : List Int} {v x : Int} (h : v ∈ vs) : dput (lm L vs) (.inl v) (.int x) = lm (setL L v x) vs := by
  unfold dput
  rw [lm_val h]
  rw [if_pos (show (some (PyData.int (L v))).isSome = true from rfl)]
  unfold lm
  rw [List.map_map]
  refine List.map_congr_left fun z _ => ?_
  show (if (Sum.inl z : Key) = .inl v then ((Sum.inl z : Key), PyData.int x) else (.inl z, .int (L z))) = (.inl z, .int (setL L v x z))
  unfold setL
  by_cases q : z = v
  · subst q
    rw [if_pos rfl, if_pos rfl]
  · rw [if_neg q, if_neg fun e => q (Sum.inl.inj e)]
theorem lm_new {L : Int → Int} : ∀ {vs us : List Int}, (us ++ vs).Nodup → (vs.map fun v => (v, PyData.int (L v))).foldl (fun m p => dput m (.inl p.1) p.2) (lm L us) = lm L (us ++ vs)
  | [], us, _ => by rw [List.append_nil]; rfl
  | v :: vs, us, h => by
    rw [List.map_cons, List.foldl_cons]
    have hv : v ∉ us := fun hm => (List.nodup_append.mp h).2.2 v hm v List.mem_cons_self rfl
    have e : dput (lm L us) (.inl v) (.int (L v)) = lm L (us ++ [v]) := by
      unfold dput
      rw [if_neg]
      · unfold lm
        rw [List.map_append]
        rfl
      · rw [dval_some]
        have : (lm L us).map (·.1) = us.map .inl := by unfold lm; rw [List.map_map]; rfl
        rw [this, contains_inl]
        simpa using hv
    show (vs.map fun v => (v, PyData.int (L v))).foldl (fun m p => dput m (.inl p.1) p.2) (dput (lm L us) (.inl v) (.int (L v))) = _
    rw [e, lm_new (by simpa using h)]
    simp
theorem nodup_dedup {α : Type} [BEq α] [LawfulBEq α] : ∀ {ys acc : List α}, acc.Nodup → (dedup acc ys).Nodup
  | [], acc, h => h
  | y :: ys, acc, h => by
    refine nodup_dedup (ys := ys) ?_
    split
    · exact h
    · rename_i q
      rw [List.nodup_append]
      refine ⟨h, by simp, fun a ha b hb e => ?_⟩
      rw [List.mem_singleton.mp hb] at e
      subst e
      simp at q
      exact q ha
theorem nodup_sortI {ns : List Int} (h : ns.Nodup) : (sortI ns).Nodup := ((sortI_perm ns).nodup_iff).mpr h
theorem nodup_varsOf (R : Rs) : (varsOf R).Nodup := nodup_sortI (nodup_dedup List.nodup_nil)
theorem mem_varsOf {R : Rs} {v : Int} : v ∈ varsOf R ↔ ∃ c ∈ R, ∃ l ∈ c, iabs l = v := by
  unfold varsOf
  rw [(sortI_perm _).mem_iff, mem_dedup]
  simp only [List.not_mem_nil, false_or, List.mem_map, List.mem_flatten]
  constructor
  · rintro ⟨l, ⟨c, hc, hl⟩, rfl⟩
    exact ⟨c, hc, l, hl, rfl⟩
  · rintro ⟨c, hc, l, hl, rfl⟩
    exact ⟨l, ⟨c, hc, hl⟩, rfl⟩
theorem iabs_nn (l : Int) : 0 ≤ iabs l := by unfold iabs; split <;> omega
/-- all of a clause have one leader -/
def UnifC (L : Int → Int) (c : Cl) : Prop := ∀ l ∈ c, ∀ l' ∈ c, L (iabs l) = L (iabs l')
def Unif (L : Int → Int) (R : Rs) : Prop := ∀ c ∈ R, UnifC L c
section
variable {K : PySem.W.Frag} {H0 Hk H H' : Hp} {σ : L2.St} {Γ : List Sl} {te ta : TE}
theorem et_min {ns : List Int} (ha : E1 K ta σ H (.l (ns.map .int))) (hn : ns ≠ []) : ET K (tCB (rMin K) (tCons ta tNil)) σ H (.int (minL ns)) := fun H1 e Q k =>
  ha H1 e _ fun v H2 e2 h2 => by
    obtain ⟨p, vs, rfl, t, z⟩ := h2
    obtain rfl := z.ints
    refine ⟨p, ns, rfl, t, List.length_pos_iff.mpr hn, fun m h1 h2 => ?_⟩
    rw [minL_of h1 h2]
    exact k _ H2 e2 (.int _)
end
def PreJ (as : List Ar) : Prop := ∃ R : Rs, as = [.t (dR R)] ∧ Sm R ∧ hasE R = false ∧ R.flatten.length ≤ 90000 ∧ (varsOf R).length < 64
def Pojoined_variables (as : List Ar) (r : Rz) : Prop := ∃ (R : Rs) (L : Int → Int), as = [.t (dR R)] ∧ Unif L R ∧ r = .w (.dk (lm L (varsOf R)))
section
variable {P : Program} {w : World} {K : PySem.W.Frag} {mg : Str → Option Value} {base : Heap}
theorem ne_of_hasE {R : Rs} (h : hasE R = false) {c : Cl} (hc : c ∈ R) : c ≠ [] := fun e => by
  unfold hasE at h
  rw [List.any_eq_false] at h
  exact h c hc (by simp [e])
abbrev Njoined_variables : List Str := ["residue", "leader", "changed", "clause", "least", "literal", "v"]
theorem sc_joined_variables : FnScope Njoined_variables ["residue"] (defScope sQjoined_variables) := ⟨rfl, rfl, rfl, by decide +kernel, rfl, by decide +kernel, by decide +kernel⟩
theorem cal_joined_variables (T : Tx K mg base) : Cal P w K mg base 2 "joined_variables" (spR K PreJ Pojoined_variables) [] := by
  have sc := sc_joined_variables
  refine cal_r T 14 14 rfl rfl sc (fun _ _ _ _ _ _ us hl => match us, hl with | [_], _ => rfl) (fun as h => ?_) (by decide) fun cdv A outer s H Q E hr => ?_
  · (first | (obtain ⟨_, rfl, _⟩ := h; rfl) | (obtain ⟨_, _, rfl, _⟩ := h; rfl) | (obtain ⟨_, _, _, rfl, _⟩ := h; rfl) | (obtain ⟨_, _, _, _, rfl, _⟩ := h; rfl) | (obtain ⟨_, _, _, _, _, rfl, _⟩ := h; rfl) | (obtain ⟨_, _, _, _, _, _, rfl, _⟩ := h; rfl))
  refine ⟨_, (pss_cons (ps_set (i := 1) sc.nd rfl (by first | exact Or.inl rfl | exact Or.inr rfl) (pe_dcG (own := [("v", 6)]) rfl sc.nd (pi_tup (pe_c (cal_variables_of T) hr (by decide) rfl (pa_cons (pv 0) pa_nil))) (blkOk_by (own := [("v", 6)]) (N := Njoined_variables) (sc := defScope sQjoined_variables) (by decide +kernel)) (fun _ _ _ _ _ => (pg_name (i := 6) sc.nd rfl (Or.inl rfl))) (fun _ _ _ _ _ => pts_nil) (fun _ _ _ _ _ => (pv 6)) (fun _ _ _ _ _ => (pv 6)) (dkInt _ _ _ _)))
    (pss_cons (ps_set (i := 2) sc.nd rfl (by first | exact Or.inl rfl | exact Or.inr rfl) pe_bl)
    (pss_cons (ps_while PassesOwn.never (pt_val (pv 2))
      (pss_cons (ps_set (i := 2) sc.nd rfl (by first | exact Or.inl rfl | exact Or.inr rfl) pe_bl)
      (pss_one (ps_for PassesOwn.never rfl (pi_tup (pv 0)) (pg_name (i := 3) sc.nd rfl (by first | exact Or.inl rfl | exact Or.inr rfl))
        (pss_cons (ps_set (i := 4) sc.nd rfl (by first | exact Or.inl rfl | exact Or.inr rfl) (pe_callB (cr_min rfl) (by rfl) T.f_min (by decide +kernel) (pa_cons (pe_lc (own := [("literal", 5)]) rfl sc.nd (pi_tup (pv 3)) (blkOk_by (own := [("literal", 5)]) (N := Njoined_variables) (sc := defScope sQjoined_variables) (by decide +kernel)) (fun _ _ _ _ _ => (pg_name (i := 5) sc.nd rfl (Or.inl rfl))) (fun _ _ _ _ _ => pts_nil) (fun _ _ _ _ _ => (pe_dget (hu_of hr) (pv 1) (pe_callB call_abs (by rfl) T.f_abs (by decide +kernel) (pa_cons (pv 5) pa_nil)) (fun _ _ => rfl)))) pa_nil)))
        (pss_one (ps_for PassesOwn.never rfl (pi_tup (pv 3)) (pg_name (i := 5) sc.nd rfl (by first | exact Or.inl rfl | exact Or.inr rfl))
          (pss_one (ps_if (pt_cmpR op_ne (pe_dget (hu_of hr) (pv 1) (pe_callB call_abs (by rfl) T.f_abs (by decide +kernel) (pa_cons (pv 5) pa_nil)) (fun _ _ => rfl)) (pv 4) (nomark _))
            (pss_cons (ps_dput (hu_of hr) (pv 1) (pe_callB call_abs (by rfl) T.f_abs (by decide +kernel) (pa_cons (pv 5) pa_nil)) (pv 4) rfl)
            (pss_one (ps_set (i := 2) sc.nd rfl (by first | exact Or.inl rfl | exact Or.inr rfl) pe_bl)))
            pss_nil)))))))))
    (pss_one (ps_ret (pv 1)))))), fun as h k σ R => ?_⟩
  obtain ⟨R0, rfl, hS, hE, hF, hV⟩ := h
  have vm : ∀ {c l}, c ∈ R0 → l ∈ c → iabs l ∈ varsOf R0 := fun hc hl => mem_varsOf.mpr ⟨_, hc, _, hl, rfl⟩
  refine sq (s_dcT (xs := varsOf R0) (enc := .int) (kf := fun v => v) (vf := fun v => .int v) R (et_call (ea_t (et_v R rfl) ea_nil) ⟨R0, rfl, hF, hV, rfl⟩) (by omega) (fun n x hx σ1 H1 R1 e1 => ⟨et_v R1 rfl, et_v R1 rfl⟩) fun p σ1 H1 _ R1 => ?_)
  have e0 : dofI ((varsOf R0).map fun v => (v, PyData.int v)) = lm (fun v => v) (varsOf R0) := lm_new (us := []) (L := fun v => v) (nodup_varsOf R0)
  have R1' : Rel K H H H1 σ1 [.t (dR R0), Sl.w p (.dk (lm (fun v => v) (varsOf R0))), .any, .any, .any, .any, .any] := R1.eq (by rw [e0]; rfl)
  dsimp only
  refine sq (s_set R1' et_bl fun σ2 H2 _ R2 => ?_)
  refine sq (s_while (ι := (Int → Int) × Bool) (fun z _ σ' H' => Rel K H H H' σ' [.t (dR R0), Sl.w p (.dk (lm z.1 (varsOf R0))), .t (.bool z.2), .any, .any, .any, .any] ∧ (∀ v ∈ varsOf R0, 0 ≤ z.1 v) ∧ (z.2 = false → Unif z.1 R0)) (fun z => sumL z.1 (varsOf R0) + if z.2 = true then 1 else 0) (z0 := ((fun v => v), true)) ⟨R2, fun v hv => ?_, fun h => by cases h⟩ fun z σ3 H3 ⟨R3, n3, u3⟩ => ⟨z.2, eb_t (et_v R3 rfl), fun hb H4 e4 => ?_, fun hb H4 e4 => ?_⟩)
  · obtain ⟨c, _, l, _, rfl⟩ := mem_varsOf.mp hv
    exact iabs_nn l
  · obtain ⟨L, b⟩ := z
    have hb : b = true := hb
    subst hb
    refine sq (s_set (R3.same e4) et_bl fun σ5 H5 _ R5 => ?_)
    refine s_forTG (xs := R0) (enc := dC) (et_v R5 rfl) fun H6 e6 => ⟨fun n σ' H' => ∃ L' b', Rel K H H6 H' σ' [.t (dR R0), Sl.w p (.dk (lm L' (varsOf R0))), .t (.bool b'), .any, .any, .any, .any] ∧ (∀ v ∈ varsOf R0, 0 ≤ L' v) ∧ sumL L' (varsOf R0) ≤ sumL L (varsOf R0) ∧ (b' = true → sumL L' (varsOf R0) < sumL L (varsOf R0)) ∧ (b' = false → L' = L ∧ ∀ c ∈ R0.take n, UnifC L c),
      ⟨L, false, (R5.same e6).rebase, n3, Nat.le_refl _, (fun h => by cases h), fun _ => ⟨rfl, fun c hc => by cases hc⟩⟩, fun n σ' H' ⟨_, _, R', _⟩ => R'.keep, fun n c v σ' H' hc ⟨L', b', R', n', le', lt', un'⟩ tv => ?_, fun σ' H' ⟨L', b', R', n', le', lt', un'⟩ => ?_⟩
    · have hcm : c ∈ R0 := List.mem_of_getElem? hc
      have hne := ne_of_hasE hE hcm
      refine g_name (i := 3) R' tv fun σ7 R7 => ?_
      have hns : (c.map fun l => L' (iabs l)) ≠ [] := by simpa using hne
      refine sq (s_set R7 (et_min (ns := c.map fun l => L' (iabs l)) (EL.e1 (EL.eq (el_mapT (xs := c) (enc := .int) (f := fun l => .int (L' (iabs l))) R7 (et_v R7 rfl) (Nat.le_trans (hS.2 c hcm) (by decide)) fun m l hl σ8 H8 R8 e8 => et_dget (dk_w R8 rfl) (fun H9 e9 => dk_w (R8.same e9) rfl) (et_abs (et_v R8 rfl)) (lm_val (vm hcm (List.mem_of_getElem? hl)))) (by rw [List.map_map]; rfl))) hns) fun σ8 H8 _ R8 => ?_)
      have hlow : ∀ l ∈ c, minL (c.map fun l => L' (iabs l)) ≤ L' (iabs l) := fun l hl => minL_low (List.mem_map.mpr ⟨l, hl, rfl⟩)
      have hmn : 0 ≤ minL (c.map fun l => L' (iabs l)) := by
        obtain ⟨l, hl, e⟩ := List.mem_map.mp (minL_in hns)
        rw [← e]
        exact n' _ (vm hcm hl)
      generalize minL (c.map fun l => L' (iabs l)) = least at R8 hlow hmn
      refine s_forTG (xs := c) (enc := .int) (et_v R8 rfl) fun H9 e9 => ⟨fun m σ' H' => ∃ L2 b2, Rel K H H9 H' σ' [.t (dR R0), Sl.w p (.dk (lm L2 (varsOf R0))), .t (.bool b2), .t (dC c), .t (.int least), .any, .any] ∧ (∀ v ∈ varsOf R0, 0 ≤ L2 v) ∧ (∀ l ∈ c, least ≤ L2 (iabs l)) ∧ sumL L2 (varsOf R0) ≤ sumL L (varsOf R0) ∧ (b2 = true → sumL L2 (varsOf R0) < sumL L (varsOf R0)) ∧ (b2 = false → b' = false ∧ L2 = L' ∧ ∀ l ∈ c.take m, L' (iabs l) = least),
        ⟨L', b', (R8.same e9).rebase, n', hlow, le', lt', fun h => ⟨h, rfl, fun l hl => by cases hl⟩⟩, fun n σ' H' ⟨_, _, R', _⟩ => R'.keep, fun m l v σ9 H10 hl ⟨L2, b2, R9, n9, lo9, le9, lt9, un9⟩ tv => ?_, fun σ9 H10 ⟨L2, b2, R9, n9, lo9, le9, lt9, un9⟩ => ?_⟩
      · have hlm : l ∈ c := List.mem_of_getElem? hl
        refine g_name (i := 5) R9 tv fun σ11 R11 => ?_
        refine s_if (eb_t (et_neI (et_dget (dk_w R11 rfl) (fun H9 e9 => dk_w (R11.same e9) rfl) (et_abs (et_v R11 rfl)) (lm_val (vm hcm hlm))) (et_v R11 rfl))) (fun hb H12 e12 => ?_) fun hb H12 e12 => ?_
        · have hb' : ¬ L2 (iabs l) = least := by
            intro e
            have : (if l < 0 then -l else l) = iabs l := rfl
            rw [this, e] at hb
            simp at hb
          have hlt : least < L2 (iabs l) := by have := lo9 l hlm; omega
          have R12 := R11.same e12
          refine sq (s_dput R12 rfl (et_v R12 rfl) (fun H' R' _ => et_abs (et_v R' rfl)) (by unfold lm; rw [List.length_map]; omega) fun H13 R13 => ?_)
          have R13' := R13.eq (show _ = [.t (dR R0), Sl.w p (.dk (lm (setL L2 (iabs l) least) (varsOf R0))), .t (.bool b2), .t (dC c), .t (.int least), .t (.int l), .any] by rw [show (if l < 0 then -l else l) = iabs l from rfl, lm_put (vm hcm hlm)]; rfl)
          have hs := sumL_set (L := L2) (vm hcm hlm) hmn hlt
          dsimp only
          refine s_set R13' et_bl fun σ14 H14 _ R14 => ⟨setL L2 (iabs l) least, true, (R14.forget 5).eq rfl, fun v hv => ?_, fun l' hl' => ?_, by omega, fun _ => by omega, fun h => by cases h⟩
          · unfold setL
            split
            · exact hmn
            · exact n9 v hv
          · unfold setL
            split
            · exact Int.le_refl _
            · exact lo9 l' hl'
        · have hb' : L2 (iabs l) = least := by
            have : (if l < 0 then -l else l) = iabs l := rfl
            rw [this] at hb
            simpa using hb
          refine ⟨L2, b2, ((R11.same e12).forget 5).eq rfl, n9, lo9, le9, lt9, fun h => ?_⟩
          obtain ⟨h1, h2, h3⟩ := un9 h
          refine ⟨h1, h2, fun l' hl' => ?_⟩
          rw [List.take_add_one, hl] at hl'
          rcases List.mem_append.mp hl' with q | q
          · exact h3 l' q
          · have : l' = l := by simpa using q
            rw [this, ← h2]
            exact hb'
      · rw [List.take_length] at un9
        refine ⟨L2, b2, (((R8.same e9).back R9 |>.forget 3).forget 4).eq rfl, n9, le9, lt9, fun h => ?_⟩
        obtain ⟨h1, h2, h3⟩ := un9 h
        obtain ⟨h4, h5⟩ := un' h1
        refine ⟨h2.trans h4, fun c' hc' => ?_⟩
        rw [List.take_add_one, hc] at hc'
        rcases List.mem_append.mp hc' with q | q
        · exact h5 c' q
        · have : c' = c := by simpa using q
          subst this
          intro l hl l' hl'
          rw [← h4, h3 l hl, h3 l' hl']
    · rw [List.take_length] at un'
      refine ⟨(L', b'), ?_, (R5.same e6).back R', n', fun h => ?_⟩
      · show sumL L' _ + (if b' = true then 1 else 0) < sumL L _ + 1
        cases b' with
        | true => have := lt' rfl; simp; omega
        | false => simp; omega
      · obtain ⟨h1, h2⟩ := un' h
        show Unif L' R0
        rw [h1]
        exact h2
  · refine s_retWc (R3.same e4) (i := 1) rfl fun q o H5 hq e5 h5 h6 => k _ _ H5 ⟨R0, z.1, rfl, u3 hb, rfl⟩ e5 ⟨q, o, rfl, hq, h5, h6⟩
end
end CW

set_option maxRecDepth 100000
set_option maxHeartbeats 4000000
/-! parts_of: the walk. -/
namespace CW
open PySem PySem.Spec PyProof.Rows L2
open C8 (Cal Met Mak pe_c pe_mk pe_mt pe_mt0)
def kap (L : Int → Int) (c : Cl) : Int := L (iabs (c.headD 0))
def grp (κ : Cl → Int) (R : Rs) (k : Int) : Rs := R.filter fun c => decide (κ c = k)
def keysOf (κ : Cl → Int) (R : Rs) : List Int := dedup [] (R.map κ)
def partsOf (κ : Cl → Int) (R : Rs) : List Rs := (sortI (keysOf κ R)).map fun k => residueOf (grp κ R k)
theorem grp_snoc (κ : Cl → Int) (R : Rs) (c : Cl) (k : Int) : grp κ (R ++ [c]) k = grp κ R k ++ if κ c = k then [c] else [] := by
  unfold grp
  rw [List.filter_append]
  by_cases h : κ c = k <;> simp [h]
theorem grp_nil {κ : Cl → Int} {R : Rs} {k : Int} (h : k ∉ keysOf κ R) : grp κ R k = [] := by
  unfold grp
  rw [List.filter_eq_nil_iff]
  intro c hc e
  have e' : κ c = k := by simpa using e
  exact h (mem_dedup.mpr (.inr (List.mem_map.mpr ⟨c, hc, e'⟩)))
abbrev QS : Type := List (Int × Addr)
def qws (qs : QS) : List (Key × V) := qs.map fun x => (.inl x.1, .ref x.2)
theorem qws_val {k : Int} : ∀ (qs : QS), valV (qws qs) (.inl k) = (qs.find? fun x => decide (x.1 = k)).map fun x => V.ref x.2
  | [] => rfl
  | x :: qs => by
    have ih := qws_val (k := k) qs
    rw [List.find?_cons]
    by_cases q : x.1 = k
    · rw [decide_eq_true q]
      exact valV_pos (p := ((.inl x.1 : Key), V.ref x.2)) (by rw [q])
    · rw [decide_eq_false q]
      rw [← ih]
      exact valV_neg (p := ((.inl x.1 : Key), V.ref x.2)) (fun e => q (Sum.inl.inj e))
theorem qws_some {k : Int} (qs : QS) : (valV (qws qs) (.inl k)).isSome = (qs.map (·.1)).contains k := by
  rw [qws_val]
  induction qs with
  | nil => rfl
  | cons x qs ih =>
    rw [List.find?_cons, List.map_cons, List.contains_cons]
    by_cases q : x.1 = k
    · rw [decide_eq_true q]
      simp [q]
    · rw [decide_eq_false q]
      have : (k == x.1) = false := by
        have : ¬ k = x.1 := fun z => q z.symm
        simpa using this
      rw [this, Bool.false_or]
      exact ih
theorem qws_get {k : Int} {qs : QS} (h : k ∈ qs.map (·.1)) : ∃ x ∈ qs, x.1 = k ∧ valV (qws qs) (.inl k) = some (.ref x.2) := by
  have hs : (valV (qws qs) (.inl k)).isSome = true := by rw [qws_some]; simpa using h
  rw [qws_val] at hs ⊢
  cases q : qs.find? (fun x => decide (x.1 = k)) with
  | none => rw [q] at hs; cases hs
  | some x => exact ⟨x, List.mem_of_find?_eq_some q, by simpa using List.find?_some q, rfl⟩
theorem nodup_map_inj {α β : Type} {f : α → β} : ∀ {l : List α} {x y : α}, (l.map f).Nodup → x ∈ l → y ∈ l → f x = f y → x = y
  | z :: l, x, y, h, hx, hy, e => by
    rw [List.map_cons, List.nodup_cons] at h
    rcases List.mem_cons.mp hx with h1 | h1
    · rcases List.mem_cons.mp hy with h2 | h2
      · rw [h1, h2]
      · exact (h.1 (List.mem_map.mpr ⟨y, h2, by rw [← e, h1]⟩)).elim
    · rcases List.mem_cons.mp hy with h2 | h2
      · exact (h.1 (List.mem_map.mpr ⟨x, h1, by rw [e, h2]⟩)).elim
      · exact nodup_map_inj h.2 h1 h2 e
/-- the dict of lists at p -/
def Parts (K : PySem.W.Frag) (H0 : Hp) (av : List Addr) (H : Hp) (p : Addr) (κ : Cl → Int) (ks : List Int) (R : Rs) : Prop :=
  H0 p = none ∧ p ∉ av ∧ ∃ qs : QS, H p = some (.dK (qws qs)) ∧ qs.map (·.1) = ks ∧ (qs.map (·.1)).Nodup ∧ (qs.map (·.2)).Nodup ∧ ∀ x ∈ qs, H0 x.2 = none ∧ x.2 ≠ p ∧ x.2 ∉ av ∧ ∃ vs, H x.2 = some (.lst vs) ∧ TdAll K H vs ((grp κ R x.1).map dC)
theorem Parts.same {K : PySem.W.Frag} {H0 H H' : Hp} {av : List Addr} {p : Addr} {κ : Cl → Int} {ks : List Int} {R : Rs} (e : Same H H') (h : Parts K H0 av H p κ ks R) : Parts K H0 av H' p κ ks R := by
  obtain ⟨h1, h2, qs, h3, h4, h5, h6, h7⟩ := h
  refine ⟨h1, h2, qs, e _ _ h3, h4, h5, h6, fun x hx => ?_⟩
  obtain ⟨q1, q2, q3, vs, q4, q5⟩ := h7 x hx
  exact ⟨q1, q2, q3, vs, e _ _ q4, q5.same e⟩
/-- another object of ours changes -/
theorem Rel.other {K : PySem.W.Frag} {H0 Hk H : Hp} {σ : L2.St} {Γ : List Sl} {q : Addr} {o : HO} (R : Rel K H0 Hk H σ Γ) (h0 : H0 q = none) (ht : ∀ xs, H q ≠ some (.tup xs)) (hw : ∀ (i : Nat) (a : Addr) (c : Ct), Γ[i]? = some (Sl.w a c) → a ≠ q) : Rel K H0 Hk (upd H q o) σ Γ := by
  have kp : Keep H (upd H q o) := keep_upd ht
  refine ⟨same_mut R.base h0, R.keep.trans kp, R.len, fun j s hj => ?_, R.own⟩
  have z := R.sl j s hj
  cases s with
  | any => trivial
  | t d => obtain ⟨v, a, b⟩ := z; exact ⟨v, a, b.k kp⟩
  | w a c =>
    obtain ⟨q1, q2, o2, q3, q4⟩ := z
    exact ⟨q1, q2, o2, by rw [upd_ne (hw j a c hj)]; exact q3, q4.k kp⟩
  | r ds => exact z
  | v x => exact z
section
variable {K : PySem.W.Frag} {H0 Hk H H' : Hp} {σ : L2.St} {Γ : List Sl} {te ta : TE} {Φ : Rz → Prop} {D : Ends} {i : Nat} {c : Ct}
theorem s_exW (R : Rel K H0 Hk H σ Γ) {Ψ : Ct → Prop} (h : EX K te σ H Φ) (hΦ : ∀ r, Φ r → ∃ c, r = .w c ∧ Ψ c) (k : ∀ c p σ' H', Ψ c → Same H H' → Rel K H0 Hk H' σ' (Γ.set i (Sl.w p c)) → D.nx σ' H') : tAsg te (gName i) D σ H :=
  h H (.refl _) _ fun r v H2 hr e2 q => by
    obtain ⟨c, rfl, hc⟩ := hΦ r hr
    obtain ⟨p, o, rfl, h2, h3, h4⟩ := q
    exact k c p _ H2 hc e2 (R.set_w i e2 h2 h3 h4)
end
theorem s_ifM {tt : TT} {t u : TS} {D : Ends} {σ : L2.St} {H : Hp} {b : Bool} (M : L2.St → Hp → Prop) (h : EB tt σ H b) (k : ∀ σ' H', M σ' H' → D.nx σ' H') (h1 : b = true → ∀ H', Same H H' → (∀ σ' H', M σ' H' → D.nx σ' H') → t D σ H') (h2 : b = false → ∀ H', Same H H' → (∀ σ' H', M σ' H' → D.nx σ' H') → u D σ H') : tIfS tt t u D σ H :=
  s_if h (fun hb H' e => h1 hb H' e k) fun hb H' e => h2 hb H' e k
def Poparts_of (as : List Ar) (r : Rz) : Prop := ∃ (R : Rs) (L : Int → Int), as = [.t (dR R)] ∧ Unif L R ∧ r = .w (.lst ((partsOf (kap L) R).map dR))
section
variable {P : Program} {w : World} {K : PySem.W.Frag} {mg : Str → Option Value} {base : Heap}
theorem sm_grp {κ : Cl → Int} {R : Rs} {k : Int} (h : Sm R) : Sm (grp κ R k) := ⟨Nat.le_trans (List.length_filter_le _ _) h.1, fun c hc => h.2 c (List.mem_filter.mp hc).1⟩
abbrev Nparts_of : List Str := ["residue", "leader", "found", "clause", "first"]
theorem sc_parts_of : FnScope Nparts_of ["residue"] (defScope sQparts_of) := ⟨rfl, rfl, rfl, by decide +kernel, rfl, by decide +kernel, by decide +kernel⟩
theorem cal_parts_of (T : Tx K mg base) : Cal P w K mg base 6 "parts_of" (spR K PreJ Poparts_of) [] := by
  have sc := sc_parts_of
  refine cal_r T 15 15 rfl rfl sc (fun _ _ _ _ _ _ us hl => match us, hl with | [_], _ => rfl) (fun as h => ?_) (by decide) fun cdv A outer s H Q E hr => ?_
  · (first | (obtain ⟨_, rfl, _⟩ := h; rfl) | (obtain ⟨_, _, rfl, _⟩ := h; rfl) | (obtain ⟨_, _, _, rfl, _⟩ := h; rfl) | (obtain ⟨_, _, _, _, rfl, _⟩ := h; rfl) | (obtain ⟨_, _, _, _, _, rfl, _⟩ := h; rfl) | (obtain ⟨_, _, _, _, _, _, rfl, _⟩ := h; rfl))
  refine ⟨_, (pss_cons (ps_set (i := 1) sc.nd rfl (by first | exact Or.inl rfl | exact Or.inr rfl) (pe_c (cal_joined_variables T) hr (by decide) rfl (pa_cons (pv 0) pa_nil)))
    (pss_cons (ps_set (i := 2) sc.nd rfl (by first | exact Or.inl rfl | exact Or.inr rfl) pe_dnewK)
    (pss_cons (ps_for PassesOwn.never rfl (pi_tup (pv 0)) (pg_name (i := 3) sc.nd rfl (by first | exact Or.inl rfl | exact Or.inr rfl))
      (pss_cons (ps_set (i := 4) sc.nd rfl (by first | exact Or.inl rfl | exact Or.inr rfl) (pe_dget (hu_of hr) (pv 1) (pe_callB call_abs (by rfl) T.f_abs (by decide +kernel) (pa_cons (pe_ix ix_tup (pv 3) pe_int (fun _ _ => rfl)) pa_nil)) (fun _ _ => rfl)))
      (pss_cons (ps_if (pt_cmp (pc_dnotin (hu_of hr) (pv 4) (pv 2)))
        (pss_one (ps_dput (hu_of hr) (pv 2) (pv 4) (pe_lst pa_nil) rfl))
        pss_nil)
      (pss_one (ps_expr (pe_bm PySem.F.plainAttrs_list PySem.F.slot_list_append PySem.F.type_list_append mt_append (pe_dget (hu_of hr) (pv 2) (pv 4) (fun _ _ => rfl)) (pa_cons (pv 3) pa_nil)))))))
    (pss_one (ps_ret (pe_lc (own := [("first", 4)]) rfl sc.nd (pi_list (pe_callB cr_sortedI (by rfl) T.f_sorted (by decide +kernel) (pa_cons (pe_callTy (call_list_dK rfl) (by rfl) T.f_list (by decide +kernel) (pa_cons (pv 2) pa_nil)) pa_nil))) (blkOk_by (own := [("first", 4)]) (N := Nparts_of) (sc := defScope sQparts_of) (by decide +kernel)) (fun _ _ _ _ _ => (pg_name (i := 4) sc.nd rfl (Or.inl rfl))) (fun _ _ _ _ _ => pts_nil) (fun _ _ _ _ _ => (pe_c (cal_residue_of T) hr (by decide) rfl (pa_cons (pe_dget (hu_of hr) (pv 2) (pv 4) (fun _ _ => rfl)) pa_nil))))))))), fun as h k σ R => ?_⟩
  obtain ⟨R0, rfl, hS, hE, hF, hV⟩ := h
  refine sq (s_exW R (Ψ := fun c => ∃ L, Unif L R0 ∧ c = .dk (lm L (varsOf R0))) (ex_call (ea_t (et_v R rfl) ea_nil) ⟨R0, rfl, hS, hE, hF, hV⟩) (fun r ⟨R', L, ea, hu, er⟩ => ?_) fun c a σ1 H1 ⟨L, hu, ec⟩ _ R1 => ?_)
  · have e1 : R' = R0 := by
      have : dR R0 = dR R' := by simpa using ea
      exact (dR_inj this).symm
    subst e1
    exact ⟨_, er, L, hu, rfl⟩
  subst ec
  have vm : ∀ {c l}, c ∈ R0 → l ∈ c → iabs l ∈ varsOf R0 := fun hc hl => mem_varsOf.mpr ⟨_, hc, _, hl, rfl⟩
  dsimp only
  refine sq fun p hp => ?_
  have han : H a = none ∧ ∃ o, H1 a = some o := by
    obtain ⟨_, q2, o, q3, _⟩ := R1.sl 1 _ rfl
    exact ⟨q2, o, q3⟩
  have hpa : p ≠ a := fun e => by
    obtain ⟨_, o, q⟩ := han
    rw [← e, hp] at q
    cases q
  have R2 : Rel K H H (upd H1 p (.dK [])) (σ1.set 2 (some (.ref p))) [.t (dR R0), Sl.w a (.dk (lm L (varsOf R0))), .v (.ref p), .any, .any] := ((R1.same (same_upd hp)).set_v 2 (.ref p)).eq rfl
  have P2 : Parts K H [a] (upd H1 p (.dK [])) p (kap L) [] [] := ⟨R1.base.free hp, by simpa using hpa, [], upd_same, rfl, List.nodup_nil, List.nodup_nil, fun x hx => by cases hx⟩
  show tSeq _ _ _ _ _
  refine sq (s_forTG (xs := R0) (enc := dC) (et_v R2 rfl) fun H3 e3 => ⟨fun n σ' H' => Rel K H H3 H' σ' [.t (dR R0), Sl.w a (.dk (lm L (varsOf R0))), .v (.ref p), .any, .any] ∧ Parts K H [a] H' p (kap L) (keysOf (kap L) (R0.take n)) (R0.take n), ⟨(R2.same e3).rebase, P2.same e3⟩, fun n σ' H' h => h.1.keep, fun n c v σ' H' hc ⟨R', P'⟩ tv => ?_, fun σ' H' ⟨R', P'⟩ => ?_⟩)
  · have hcm : c ∈ R0 := List.mem_of_getElem? hc
    have hne := ne_of_hasE hE hcm
    have hhd : c.headD 0 ∈ c := by
      cases c with
      | nil => exact absurd rfl hne
      | cons x xs => exact List.mem_cons_self
    have hat : atI (c.map PyData.int) 0 = some (.int (c.headD 0)) := by
      cases c with
      | nil => exact absurd rfl hne
      | cons x xs => exact atI_hd
    have etk : R0.take (n + 1) = R0.take n ++ [c] := by rw [List.take_add_one, hc]; rfl
    have ekk : keysOf (kap L) (R0.take (n + 1)) = if (keysOf (kap L) (R0.take n)).contains (kap L c) then keysOf (kap L) (R0.take n) else keysOf (kap L) (R0.take n) ++ [kap L c] := by
      unfold keysOf
      rw [etk, List.map_append]
      exact dedup_snoc _ _ _
    refine g_name (i := 3) R' tv fun σ4 R4 => ?_
    refine sq (s_set R4 (et_dget (dk_w R4 rfl) (fun H9 e9 => dk_w (R4.same e9) rfl) (et_abs (et_ixT (et_v R4 rfl) et_int hat)) (lm_val (vm hcm hhd))) fun σ5 H5 e5 R5 => ?_)
    have P5 := P'.same e5
    have R5' : Rel K H H3 H5 σ5 [.t (dR R0), Sl.w a (.dk (lm L (varsOf R0))), .v (.ref p), .t (dC c), .t (.int (kap L c))] := R5.eq rfl
    dsimp only
    refine sq (s_ifM (b := !(keysOf (kap L) (R0.take n)).contains (kap L c)) (fun σ6 H6 => Rel K H H3 H6 σ6 [.t (dR R0), Sl.w a (.dk (lm L (varsOf R0))), .v (.ref p), .t (dC c), .t (.int (kap L c))] ∧ Parts K H [a] H6 p (kap L) (keysOf (kap L) (R0.take (n + 1))) (R0.take n)) ?_ (fun σ6 H6 ⟨R6, P6⟩ => ?_) (fun hb H6 e6 k6 => ?_) fun hb H6 e6 k6 => ?_)
    · refine eb_B (K := K) fun H6 e6 Q' k' => ?_
      obtain ⟨v4, q4, t4⟩ := (R5'.same e6).sl 4 _ rfl
      refine ⟨v4, q4, _, (R5'.same e6).sl 2 _ rfl, p, ?_⟩
      obtain ⟨_, _, qs, h3, h4, _⟩ := P5.same e6
      refine ⟨valV (qws qs) (.inl (kap L c)), rfl, .inl ⟨_, .inl _, .inl h3, t4.i, rfl⟩, ?_⟩
      rw [qws_some, h4]
      exact k' _ H6 (.refl _) (.bl _)
    · -- found[first].append(clause)
      obtain ⟨p0, pa, qs, h3, h4, h5, h6, h7⟩ := P6
      have hin : kap L c ∈ qs.map (·.1) := by
        rw [h4]
        exact mem_dedup.mpr (.inr (List.mem_map.mpr ⟨c, by rw [etk]; simp, rfl⟩))
      obtain ⟨x, hx, ex, hv⟩ := qws_get hin
      obtain ⟨x1, x2, x3, vs, x4, x5⟩ := h7 x hx
      obtain ⟨v4, q4, t4⟩ := R6.sl 4 _ rfl
      obtain ⟨v3, q3, t3⟩ := R6.sl 3 _ rfl
      have hvl : vs.length < sizeLine := by
        have := x5.length
        rw [List.length_map] at this
        have h2 : (grp (kap L) (R0.take n) x.1).length ≤ R0.length := Nat.le_trans (List.length_filter_le _ _) (List.length_take_le' _ _)
        have h1 := hS.1
        exact Nat.lt_of_le_of_lt (show vs.length ≤ 900 by omega) (by decide)
      refine ⟨_, R6.sl 2 _ rfl, v4, q4, p, .ref x.2, rfl, .inl ⟨_, .inl _, .inl h3, t4.i, hv.symm⟩, .inl ⟨rfl, _, SqL.of x4⟩, v3, q3, x.2, vs, v3, rfl, rfl, x4, hvl, ?_⟩
      have nt : ∀ xs, H6 x.2 ≠ some (.tup xs) := fun xs z => by rw [x4] at z; cases z
      have kp : Keep H6 (upd H6 x.2 (.lst (vs ++ [v3]))) := keep_upd nt
      refine ⟨((R6.other x1 nt fun i b c' hi => ?_).forget 3 |>.forget 4).eq rfl, p0, pa, qs, ?_, h4, h5, h6, fun y hy => ?_⟩
      · match i, hi with
        | 1, hi =>
          injection (Option.some.inj hi) with e1 _
          rw [← e1]
          intro e
          exact x3 (by rw [← e]; exact List.mem_singleton.mpr rfl)
        | 0, hi => cases hi
        | 2, hi => cases hi
        | 3, hi => cases hi
        | 4, hi => cases hi
        | n + 5, hi => simp at hi
      · rw [upd_ne (Ne.symm x2)]
        exact h3
      · obtain ⟨y1, y2, y3, us, y4, y5⟩ := h7 y hy
        refine ⟨y1, y2, y3, ?_⟩
        rw [etk, grp_snoc]
        by_cases e : y.2 = x.2
        · have exy : y = x := by
            exact nodup_map_inj h6 hy hx e
          subst exy
          refine ⟨vs ++ [v3], by rw [upd_same], ?_⟩
          rw [if_pos ex.symm, List.map_append]
          exact TdAll.snoc (x5.k kp) (t3.k kp)
        · refine ⟨us, by rw [upd_ne e]; exact y4, ?_⟩
          have : ¬ kap L c = y.1 := fun z => e (by
            have : y = x := nodup_map_inj h5 hy hx (by rw [← z, ex])
            rw [this])
          rw [if_neg this, List.append_nil]
          exact y5.k kp
    · have hc' : (keysOf (kap L) (R0.take n)).contains (kap L c) = false := by simpa using hb
      have hnk : kap L c ∉ keysOf (kap L) (R0.take n) := by simpa using hc'
      rw [hc', if_neg Bool.false_ne_true] at ekk
      have R6 := R5'.same e6
      have P6 := P5.same e6
      refine ⟨by decide, fun q hq => ?_⟩
      have Rq := R6.same (same_upd (o := .lst []) hq)
      obtain ⟨p0, pa, qs, g3, h4, h5, h6, g7⟩ := P6
      have h3 := same_upd (o := .lst []) hq _ _ g3
      have h7 : ∀ x ∈ qs, H x.2 = none ∧ x.2 ≠ p ∧ x.2 ∉ [a] ∧ ∃ vs, (upd H6 q (.lst [])) x.2 = some (.lst vs) ∧ TdAll K (upd H6 q (.lst [])) vs ((grp (kap L) (R0.take n) x.1).map dC) := fun x hx => by
        obtain ⟨a1, a2, a3, us, a4, a5⟩ := g7 x hx
        exact ⟨a1, a2, a3, us, same_upd hq _ _ a4, a5.same (same_upd hq)⟩
      obtain ⟨v4, q4, t4⟩ := Rq.sl 4 _ rfl
      have hqp : q ≠ p := fun e => by
        rw [← e, hq] at g3
        cases g3
      have hlq : (qws qs).length < sizeLine := by
        unfold qws
        have : qs.length = (keysOf (kap L) (R0.take n)).length := by rw [← h4, List.length_map]
        have h2 : (keysOf (kap L) (R0.take n)).length ≤ R0.length := by
          unfold keysOf
          have := dedup_len ((R0.take n).map (kap L)) []
          have := List.length_take_le' n R0
          simp at *
          omega
        have h1 := hS.1
        rw [List.length_map]
        exact Nat.lt_of_le_of_lt (show qs.length ≤ 900 by omega) (by decide)
      have hput : putK (qws qs) (.inl (kap L c)) (.ref q) = qws (qs ++ [(kap L c, q)]) := by
        have hn : valV (qws qs) (.inl (kap L c)) = none := by
          have := qws_some (k := kap L c) qs
          rw [h4, hc'] at this
          cases z : valV (qws qs) (.inl (kap L c)) with
          | none => rfl
          | some _ => rw [z] at this; cases this
        rw [putK_new _ hn]
        unfold qws
        rw [List.map_append]
        rfl
      refine ⟨_, Rq.sl 2 _ rfl, v4, q4, p, _, rfl, .inl ⟨_, .inl _, h3, t4.i, hlq, rfl⟩, ?_⟩
      have nt : ∀ xs, (upd H6 q (.lst [])) p ≠ some (.tup xs) := fun xs z => by rw [h3] at z; cases z
      refine k6 _ _ ⟨Rq.other p0 nt fun i b c' hi => ?_, p0, pa, qs ++ [(kap L c, q)], ?_, ?_, ?_, ?_, fun y hy => ?_⟩
      · match i, hi with
        | 1, hi =>
          injection (Option.some.inj hi) with e1 _
          rw [← e1]
          exact hpa.symm
        | 0, hi => cases hi
        | 2, hi => cases hi
        | 3, hi => cases hi
        | 4, hi => cases hi
        | n + 5, hi => simp at hi
      · rw [upd_same, hput]
      · rw [List.map_append, h4, ekk]; rfl
      · rw [List.map_append, h4, List.nodup_append]
        refine ⟨by rw [← h4]; exact h5, by simp, fun x hx y hy e => ?_⟩
        have : y = kap L c := by simpa using hy
        rw [this] at e
        exact hnk (by rw [← e]; exact hx)
      · rw [List.map_append, List.nodup_append]
        refine ⟨h6, by simp, fun x hx y hy e => ?_⟩
        have : y = q := by simpa using hy
        rw [this] at e
        obtain ⟨z, hz, ez⟩ := List.mem_map.mp hx
        obtain ⟨_, _, _, zs, q5, _⟩ := g7 z hz
        rw [ez, e, hq] at q5
        cases q5
      · rcases List.mem_append.mp hy with hy | hy
        · obtain ⟨y1, y2, y3, us, y4, y5⟩ := h7 y hy
          refine ⟨y1, y2, y3, us, by rw [upd_ne y2]; exact y4, y5.k (keep_upd nt)⟩
        · have ey : y = (kap L c, q) := by simpa using hy
          subst ey
          refine ⟨R6.base.free hq, hqp, fun hm => ?_, [], ?_, ?_⟩
          · have e : q = a := by simpa using hm
            obtain ⟨_, _, o, q3, _⟩ := R6.sl 1 _ rfl
            rw [← e, hq] at q3
            cases q3
          · show (upd (upd H6 q (.lst [])) p _) q = _
            rw [upd_ne hqp, upd_same]
          · rw [grp_nil hnk]
            exact .nil
    · have hc' : (keysOf (kap L) (R0.take n)).contains (kap L c) = true := by simpa using hb
      rw [hc', if_pos rfl] at ekk
      exact k6 _ H6 ⟨R5'.same e6, by rw [ekk]; exact P5.same e6⟩
  · rw [List.take_length] at P'
    have hks : (keysOf (kap L) R0).length ≤ 900 := by
      unfold keysOf
      have := dedup_len (R0.map (kap L)) []
      have := hS.1
      simp at *
      omega
    have hlst : EL K (tCB rListD (tCons (tVar 2) tNil)) σ' H' ((keysOf (kap L) R0).map .int) := fun H4 e4 Q' k' => by
      obtain ⟨p0, pa, qs, h3, h4, h5, h6, h7⟩ := P'.same e4
      refine ⟨_, (R'.same e4).sl 2 _ rfl, p, _, rfl, h3, fun l hl => k' l _ _ hl (same_upd hl) upd_same ?_⟩
      have : (qws qs).map (fun kv => kV kv.1) = (keysOf (kap L) R0).map V.int := by
        unfold qws
        rw [← h4, List.map_map, List.map_map]
        rfl
      rw [this]
      exact TdAll.of_ints _
    refine s_retL (((R2.same e3).back R')) (EL.eq (el_mapL (xs := sortI (keysOf (kap L) R0)) (enc := .int) (f := fun k => dR (residueOf (grp (kap L) R0 k))) R' (EL.e1 (el_sortedI (EL.e1 hlst))) (by have := (sortI_perm (keysOf (kap L) R0)).length_eq; omega) fun m k' hk' σ5 H5 R5 e5 => et_call (ea_cons (fun H6 e6 Q6 k6 => ?_) ea_nil) ⟨grp (kap L) R0 k', rfl, sm_grp hS, rfl⟩) (show _ = (partsOf (kap L) R0).map dR by unfold partsOf; rw [List.map_map]; rfl)) fun q xs H5 hq e5 h5 h6 => k _ _ H5 ⟨R0, L, rfl, hu, rfl⟩ e5 ⟨q, _, rfl, hq, h5, xs, rfl, h6⟩
    obtain ⟨p0, pa, qs, h3, h4, h5, h6, h7⟩ := (P'.same e5).same e6
    have hin : k' ∈ qs.map (·.1) := by
      rw [h4]
      exact (sortI_perm _).mem_iff.mp (List.mem_of_getElem? hk')
    obtain ⟨x, hx, ex, hv⟩ := qws_get hin
    obtain ⟨x1, x2, x3, vs, x4, x5⟩ := h7 x hx
    obtain ⟨v4, q4, t4⟩ := (R5.same e6).sl 4 _ rfl
    refine ⟨_, (R5.same e6).sl 2 _ rfl, v4, q4, p, .ref x.2, rfl, .inl ⟨_, .inl _, .inl h3, t4.i, hv.symm⟩, k6 _ H6 (.refl _) ⟨x.2, vs, rfl, SqL.of x4, ?_⟩⟩
    rw [← ex]
    exact x5
end
end CW

set_option maxRecDepth 100000
set_option maxHeartbeats 4000000
/-! Types, sets, texts, dict displays in the typed environment. -/
namespace CW
open PySem PySem.Spec PyProof.Rows L2
open C8 (Cal Met Mak pe_c pe_mk pe_mt pe_mt0)
def tyName : PyData → String
  | .none => "NoneType"
  | .bool _ => "bool"
  | .int _ => "int"
  | .str _ => "str"
  | .tuple _ => "tuple"
  | .list _ => "list"
  | .dict _ => "dict"
theorem td_ty {K : PySem.W.Frag} {H : Hp} {v : V} {d : PyData} (h : Td K H v d) : TyX K H v (.type (tyName d)) := by
  cases h with
  | non => exact .base .non
  | bl b => exact .base (.bl b)
  | int i => exact .base (.int i)
  | str x => exact .base (.str x)
  | tup a b =>
    rcases a with a | a
    · exact .base (.tup a)
    · rcases a (fun _ => none) with h | h
      · rcases h with h | ⟨_, h⟩ <;> cases h
      · obtain ⟨o, its, n, h1, h2, _⟩ := h
        exact .kTuple h1 h2
section
variable {K : PySem.W.Frag} {H0 Hk H H' : Hp} {σ : L2.St} {Γ : List Sl} {te ta tb td ty : TE} {d : PyData} {ds : List PyData} {b : Bool}
theorem et_isi {T : String} (ha : ET K ta σ H d) (hk : kitB (tyName d) T = some b) : ET K (tCB (rIsi K) (tCons ta (tCons (tC (.ty T)) tNil))) σ H (.bool b) := fun H1 e Q k =>
  ha H1 e _ fun v H2 e2 h2 => ⟨v, .ty T, _, _, b, rfl, .ty T, td_ty h2, kit_ty hk, k _ H2 e2 (.bl _)⟩
theorem et_isiL {T : String} {ds : List PyData} (ha : E1 K ta σ H (.l ds)) (hk : kitB "list" T = some b) : True := trivial
theorem TdAll.strs : ∀ {ns : List Str} {vs : List V}, TdAll K H vs (ns.map .str) → vs = ns.map V.str
  | [], _, h => by cases h; rfl
  | n :: ns, _, h => by
    have h' : TdAll K H _ (.str n :: ns.map .str) := h
    cases h' with
    | cons a b => cases a; rw [TdAll.strs b]; rfl
theorem inV_strs (n : Str) : ∀ ns : List Str, inV (.str n) (ns.map V.str) = ns.any fun z => decide (z = n)
  | [] => rfl
  | z :: ns => by
    have ih := inV_strs n ns
    show (eqV (.str z) (.str n) || inV (.str n) (ns.map V.str)) = _
    rw [ih]
    rfl
theorem flat_strs : ∀ ns : List Str, (ns.map V.str).all flatV = true
  | [] => rfl
  | _ :: ns => flat_strs ns
theorem et_inS {x : Str} {ns : List Str} (ha : ET K ta σ H (.str x)) (hb : ET K tb σ H (.tuple (ns.map .str))) : ET K (tOp (rIn K false) ta tb) σ H (.bool (ns.any fun z => decide (z = x))) := fun H1 q Q k =>
  ha H1 q _ fun v H2 e2 h3 => hb H2 (q.trans e2) _ fun u H3 e3 h4 => by
    obtain ⟨p, xs, rfl, t, z⟩ := h4.t
    obtain rfl := z.strs
    have hv := h3.s
    subst hv
    refine ⟨p, _, rfl, .inr t.sq, rfl, flat_strs ns, ?_⟩
    show Q (.bl (inV (.str x) (ns.map V.str))) H3
    rw [inV_strs]
    exact k _ H3 (e2.trans e3) (.bl _)
/-- {k: v}, one entry -/
theorem ew_disp1 {n : Int} (hk : ∀ H2, Same H H2 → ET K ty σ H2 (.int n)) (hv : ∀ H2, Same H H2 → ET K td σ H2 d) : EW (K := K) (tDisp [(ty, td)]) σ H (.dk [(.inl n, d)]) := fun H1 e Q k p hp =>
  hk H1 e _ (same_upd hp) _ fun y H2 e2 h2 => hv H1 e H2 ((same_upd hp).trans e2) _ fun z H3 e3 h3 => by
    have hp3 : H3 p = some (.dK []) := e3 _ _ (e2 _ _ upd_same)
    refine ⟨hp3, [(.inl n, z)], by rw [h2.i]; rfl, by simp, ?_⟩
    have nt : ∀ xs, H3 p ≠ some (.tup xs) := fun xs q => by rw [hp3] at q; cases q
    refine k p _ _ hp (same_mut (((same_upd hp).trans e2).trans e3) hp) upd_same ⟨_, rfl, .cons ⟨rfl, h3.k (keep_upd nt)⟩ .nil⟩
end
/-! ### len(set(a tuple of ints)), each once -/
theorem nodup_sub_len {α : Type} [BEq α] [LawfulBEq α] : ∀ {ks zs : List α}, ks.Nodup → (∀ k ∈ ks, k ∈ zs) → ks.length ≤ zs.length
  | [], _, _, _ => Nat.zero_le _
  | k :: ks, zs, h, hs => by
    have hk := hs k List.mem_cons_self
    rw [List.nodup_cons] at h
    have := nodup_sub_len (ks := ks) (zs := zs.erase k) h.2 fun x hx => by
      have ne : x ≠ k := fun e => h.1 (by rw [← e]; exact hx)
      exact (List.mem_erase_of_ne ne).mpr (hs x (List.mem_cons_of_mem _ hx))
    rw [List.length_erase_of_mem hk] at this
    have hp := List.length_pos_of_mem hk
    rw [List.length_cons]
    omega
def tLenSetT (K : PySem.W.Frag) (ta : TE) : TE := fun σ H Q => ta σ H fun x H1 => ∃ (l : Addr) (ns : List Int), x = V.ref l ∧ SqT K H1 l (ns.map V.int) ∧ ns.length < 64 ∧ ns.Nodup ∧ Q (.int ns.length) H1
theorem pe_lenSetT {X : Cx} {a : Expr} {ta : TE} {p p2 q pos : Pos} (hc : X.calm = true) (hg : Gl X "len") (hm : X.mg "len" = none) (hg2 : Gl X "set") (hm2 : X.mg "set" = none) (ha : PE X a ta)
    (na : starEach [a] X.env = (false, eval a X.env) :: starEach [] X.env := by rfl) : PE X (.Call (.Name "len" p) [.Call (.Name "set" p2) [a] [] q] [] pos) (tLenSetT X.K ta) := by
  refine ⟨fun pins s σ H Q I h => ?_⟩
  refine Call_ (ld_blt I hg hm PySem.boot_len ?_)
  refine PyProof.Rows.callWith_builtin1 (PyProof.Rows.args_cons ?_ rfl) rfl rfl
  refine Call_ (ld_blt I hg2 hm2 PyProof.Rows.boot_set ?_)
  refine PyProof.Rows.callWith_type1 (PyProof.Rows.args_cons (thn (ha.run pins s σ H _ I h) fun v s1 ⟨x, H1, I1, r1, q1⟩ => PyProof.Rows.args_nil ?_) na) na rfl
  obtain ⟨l, ns, rfl, hq, h1, hnd, q1⟩ := q1
  cases r1
  obtain ⟨its, r, pl, hz⟩ := I1.tuple hq
  refine call_set_tupI ns (I1.ok.hd hc) pl (by simpa using r.ints) (by unfold scanBound; omega) fun h' tk c hS hcl hk => ?_
  refine PyProof.Rows.args_nil ?_
  obtain ⟨o, es, ep, t, ho, hex, hd, hg, hnd2, hmem, hsz, hf, hn, _⟩ := hS
  have hcn : c = ns.length := by
    have h2 : es.toList.length = c := by rw [Array.length_toList]; exact hn
    have h3 := nodup_sub_len hnd fun k hk => (hmem k).mp (by simpa using hk)
    rw [List.length_map] at h3
    omega
  have I2 : Inv X pins σ H1 { s1 with heap := h', toks := tk } := I1.kept fun b o e => hk b o e
  refine call_len_set ho hex hd hf (by omega) ⟨.int ns.length, H1, I2.tok _, ⟨_, by rw [hn, hcn]⟩, q1⟩
section
variable {K : PySem.W.Frag} {H : Hp} {σ : L2.St} {ta : TE}
theorem et_lenSetT {ns : List Int} (ha : ET K ta σ H (dC ns)) (h1 : ns.length < 64) (h2 : ns.Nodup) : ET K (tLenSetT K ta) σ H (.int ns.length) := fun H1 e Q k =>
  ha H1 e _ fun v H2 e2 h => by
    obtain ⟨a, xs, rfl, t, q⟩ := h.t
    obtain rfl := q.ints
    exact ⟨a, ns, rfl, t.sq, h1, h2, k _ H2 e2 (.int _)⟩
end
end CW

set_option maxRecDepth 100000
set_option maxHeartbeats 4000000
/-! rules, sheets, policies: the walks. -/
namespace CW
open PySem PySem.Spec PyProof.Rows L2
open C8 (Cal Met Mak pe_c pe_mk pe_mt pe_mt0)
/-! ### rules -/
inductive Rule where
  | no
  | yes
  | some_ (d : PyData)
  | refuted (d : PyData)
  | unit (l : Int) (c : Nat)
  | more (l : Int) (c : Nat)
  | less (c : Nat)
  | choice (v : Int) (a b : Nat)
  | parts (cs : List Nat)
def dN (n : Nat) : PyData := .int n
inductive Tg where
  | no | yes | some_ | refuted | unit | more | less | choice | parts
deriving DecidableEq
def Tg.s : Tg → Str
  | .no => "no"
  | .yes => "yes"
  | .some_ => "some"
  | .refuted => "refuted"
  | .unit => "unit"
  | .more => "more"
  | .less => "less"
  | .choice => "choice"
  | .parts => "parts"
theorem tg_inj (a b : Tg) : decide (a.s = b.s) = decide (a = b) := by cases a <;> cases b <;> decide +kernel
theorem tg_open (a : Tg) : decide (a.s = "open") = false := by cases a <;> decide +kernel
def Rule.tg : Rule → Tg
  | .no => .no
  | .yes => .yes
  | .some_ _ => .some_
  | .refuted _ => .refuted
  | .unit _ _ => .unit
  | .more _ _ => .more
  | .less _ => .less
  | .choice _ _ _ => .choice
  | .parts _ => .parts
def Rule.rest : Rule → List PyData
  | .no => []
  | .yes => []
  | .some_ d => [d]
  | .refuted d => [d]
  | .unit l c => [.int l, dN c]
  | .more l c => [.tuple [.int l], dN c]
  | .less c => [dN c]
  | .choice v a b => [.int v, dN a, dN b]
  | .parts cs => [.tuple (cs.map dN)]
def encR (r : Rule) : PyData := .tuple (.str r.tg.s :: r.rest)
def Rule.kids : Rule → List Nat
  | .unit _ c => [c]
  | .more _ c => [c]
  | .less c => [c]
  | .choice _ a b => [a, b]
  | .parts cs => cs
  | _ => []
def Rule.ok : Rule → Prop
  | .some_ d => Shp 20 d
  | .refuted d => Shp 20 d
  | .parts cs => cs.length ≤ 900
  | _ => True
abbrev Node := Rs × Rule
def encN (x : Node) : PyData := .tuple [dR x.1, encR x.2]
def dSh (S Hd : List Int) (R0 : Rs) (ns : List Node) : PyData := .tuple [dF S Hd R0, .tuple (ns.map encN)]
theorem shp_tag (t : Tg) {n : Nat} : Shp n (.str t.s) := by
  refine ⟨?_, by rw [PyData.depth]; omega⟩
  cases t <;> (rw [PyData.canLay0]; decide +kernel)
theorem shp_rest {r : Rule} (h : r.ok) : ∀ d ∈ r.rest, Shp 21 d := by
  intro d hd
  cases r with
  | no => cases hd
  | yes => cases hd
  | some_ x => obtain rfl := List.mem_singleton.mp hd; exact Shp.mono h (by decide)
  | refuted x => obtain rfl := List.mem_singleton.mp hd; exact Shp.mono h (by decide)
  | unit l c => rcases List.mem_cons.mp hd with rfl | hd; exact shp_int; obtain rfl := List.mem_singleton.mp hd; exact shp_int
  | more l c => rcases List.mem_cons.mp hd with rfl | hd; exact (shp_dC [l]).mono (by decide); obtain rfl := List.mem_singleton.mp hd; exact shp_int
  | less c => obtain rfl := List.mem_singleton.mp hd; exact shp_int
  | choice v a b => rcases List.mem_cons.mp hd with rfl | hd; exact shp_int; rcases List.mem_cons.mp hd with rfl | hd; exact shp_int; obtain rfl := List.mem_singleton.mp hd; exact shp_int
  | parts cs =>
    obtain rfl := List.mem_singleton.mp hd
    refine shp_tup fun d hd => ?_
    obtain ⟨i, _, rfl⟩ := List.mem_map.mp hd
    exact shp_int
theorem shp_encR {r : Rule} (h : r.ok) : Shp 22 (encR r) := shp_tup fun d hd => by
  rcases List.mem_cons.mp hd with rfl | hd
  · exact shp_tag r.tg
  · exact shp_rest h d hd
theorem eqv_str (a b : Str) : PyData.eqv (.str a) (.str b) = decide (a = b) := by
  rw [PyData.eqv]
  by_cases e : a = b <;> simp [e]
def Pchildren_of (as : List Ar) (d : PyData) : Prop := ∃ r : Rule, as = [.t (encR r)] ∧ d = .tuple (r.kids.map dN)
section
variable {P : Program} {w : World} {K : PySem.W.Frag} {mg : Str → Option Value} {base : Heap}
section
variable {H0 Hk H H' : Hp} {σ : L2.St} {Γ : List Sl} {te ta : TE} {i : Nat}
theorem et_tag {r : Rule} (h : ET K te σ H (encR r)) : ET K (tOp (rIxT K) te (tC (.int 0))) σ H (.str r.tg.s) := et_ixT h et_int atI_hd
theorem eb_tagEq {r : Rule} (t : Tg) {z : Str} (h : ET K te σ H (encR r)) (hz : t.s = z := by rfl) : EB (tTest (tOp (rEqD K) (tOp (rIxT K) te (tC (.int 0))) (tC (.str z)))) σ H (decide (r.tg = t)) :=
  eb_t (ET.eq (et_eqD (et_tag h) et_str (shp_tag r.tg (n := 1)).shaped (hz ▸ shp_tag t (n := 1)).shaped) (by rw [eqv_str, ← hz, tg_inj]))
theorem et_tagEq {r : Rule} (t : Tg) {z : Str} (h : ET K te σ H (encR r)) (hz : t.s = z := by rfl) : ET K (tOp (rEqD K) (tOp (rIxT K) te (tC (.int 0))) (tC (.str z))) σ H (.bool (decide (r.tg = t))) :=
  ET.eq (et_eqD (et_tag h) et_str (shp_tag r.tg (n := 1)).shaped (hz ▸ shp_tag t (n := 1)).shaped) (by rw [eqv_str, ← hz, tg_inj])
theorem eb_tagIn {r : Rule} (t u : Tg) {y z : Str} (h : ET K te σ H (encR r)) (hy : t.s = y := by rfl) (hz : u.s = z := by rfl) : EB (tTest (tOp (rInTD K false) (tOp (rIxT K) te (tC (.int 0))) (tTup (tCons (tC (.str y)) (tCons (tC (.str z)) tNil))))) σ H (decide (t = r.tg) || decide (u = r.tg)) :=
  eb_t (ET.eq (et_inTD (d := .str r.tg.s) (ds := [.str y, .str z]) (et_tag h) (et_tup (ds := [_, _]) (ea_t et_str (ea_t et_str ea_nil))) (shp_tag r.tg (n := 1)).shaped (shp_tup (n := 1) fun d hd => by
    rcases List.mem_cons.mp hd with rfl | hd
    · exact hy ▸ shp_tag t
    · obtain rfl := List.mem_singleton.mp hd; exact hz ▸ shp_tag u).shaped) (by rw [List.any_cons, List.any_cons, List.any_nil, eqv_str, eqv_str, Bool.or_false, ← hy, ← hz, tg_inj, tg_inj, Bool.false_xor]))
end
abbrev Nchildren_of : List Str := ["rule"]
theorem sc_children_of : FnScope Nchildren_of ["rule"] (defScope sQchildren_of) := ⟨rfl, rfl, rfl, by decide +kernel, rfl, by decide +kernel, by decide +kernel⟩
theorem cal_children_of (T : Tx K mg base) : Cal P w K mg base 1 "children_of" (spT K Pchildren_of) [] := by
  have sc := sc_children_of
  refine cal_t T 19 19 rfl rfl sc (fun _ _ _ _ _ _ us hl => match us, hl with | [_], _ => rfl) (fun as d h => ?_) (by decide) fun cdv A outer s H Q E hr => ?_
  · (first | (obtain ⟨_, rfl, _⟩ := h; rfl) | (obtain ⟨_, _, rfl, _⟩ := h; rfl) | (obtain ⟨_, _, _, rfl, _⟩ := h; rfl) | (obtain ⟨_, _, _, _, rfl, _⟩ := h; rfl) | (obtain ⟨_, _, _, _, _, rfl, _⟩ := h; rfl) | (obtain ⟨_, _, _, _, _, _, rfl, _⟩ := h; rfl))
  refine ⟨_, (pss_cons (ps_if (pt_cmpR (op_inT (u65 hr)) (pe_ix ix_tup (pv 0) pe_int (fun _ _ => rfl)) (pe_tup (pa_cons pe_str (pa_cons pe_str pa_nil))) (by rfl))
      (pss_one (ps_ret (pe_tup (pa_cons (pe_ix ix_tup (pv 0) pe_int (fun _ _ => rfl)) pa_nil))))
      pss_nil)
    (pss_cons (ps_if (pt_cmpR (op_eqD (u64 hr)) (pe_ix ix_tup (pv 0) pe_int (fun _ _ => rfl)) pe_str (nomark _))
      (pss_one (ps_ret (pe_tup (pa_cons (pe_ix ix_tup (pv 0) pe_int (fun _ _ => rfl)) (pa_cons (pe_ix ix_tup (pv 0) pe_int (fun _ _ => rfl)) pa_nil)))))
      pss_nil)
    (pss_cons (ps_if (pt_cmpR (op_eqD (u64 hr)) (pe_ix ix_tup (pv 0) pe_int (fun _ _ => rfl)) pe_str (nomark _))
      (pss_one (ps_ret (pe_ix ix_tup (pv 0) pe_int (fun _ _ => rfl))))
      pss_nil)
    (pss_cons (ps_if (pt_cmpR (op_eqD (u64 hr)) (pe_ix ix_tup (pv 0) pe_int (fun _ _ => rfl)) pe_str (nomark _))
      (pss_one (ps_ret (pe_tup (pa_cons (pe_ix ix_tup (pv 0) pe_int (fun _ _ => rfl)) pa_nil))))
      pss_nil)
    (pss_one (ps_ret (pe_tup pa_nil))))))), fun as d h k σ R => ?_⟩
  obtain ⟨r, rfl, rfl⟩ := h
  refine sq (s_if (eb_tagIn (r := r) .unit .more (et_v R rfl)) (fun hb H1 e1 => ?_) fun hb1 H1 e1 => ?_)
  · have R1 := R.same e1
    cases r with
    | unit l c => exact s_retT R1 (et_tup (ds := [_]) (ea_t (et_ixT (et_v R1 rfl) et_int (d := dN c) rfl) ea_nil)) k
    | more l c => exact s_retT R1 (et_tup (ds := [_]) (ea_t (et_ixT (et_v R1 rfl) et_int (d := dN c) rfl) ea_nil)) k
    | _ => cases hb
  have R1 := R.same e1
  dsimp only
  refine sq (s_if (eb_tagEq (r := r) .choice (et_v R1 rfl)) (fun hb H2 e2 => ?_) fun hb2 H2 e2 => ?_)
  · have R2 := R1.same e2
    cases r with
    | choice v a b => exact s_retT R2 (et_tup (ds := [_, _]) (ea_t (et_ixT (et_v R2 rfl) et_int (d := dN a) rfl) (ea_t (et_ixT (et_v R2 rfl) et_int (d := dN b) rfl) ea_nil))) k
    | _ => cases hb
  have R2 := R1.same e2
  dsimp only
  refine sq (s_if (eb_tagEq (r := r) .parts (et_v R2 rfl)) (fun hb H3 e3 => ?_) fun hb3 H3 e3 => ?_)
  · have R3 := R2.same e3
    cases r with
    | parts cs => exact s_retT R3 (et_ixT (et_v R3 rfl) et_int (d := .tuple (cs.map dN)) rfl) k
    | _ => cases hb
  have R3 := R2.same e3
  dsimp only
  refine sq (s_if (eb_tagEq (r := r) .less (et_v R3 rfl)) (fun hb H4 e4 => ?_) fun hb4 H4 e4 => ?_)
  · have R4 := R3.same e4
    cases r with
    | less c => exact s_retT R4 (et_tup (ds := [_]) (ea_t (et_ixT (et_v R4 rfl) et_int (d := dN c) rfl) ea_nil)) k
    | _ => cases hb
  have R4 := R3.same e4
  cases r with
  | unit l c => cases hb1
  | more l c => cases hb1
  | choice v a b => cases hb2
  | parts cs => cases hb3
  | less c => cases hb4
  | _ => exact s_retT R4 (et_tup (ds := []) ea_nil) k
end
end CW

set_option maxRecDepth 100000
set_option maxHeartbeats 4000000
/-! reached, is_open, policies: the walks. -/
namespace CW
open PySem PySem.Spec PyProof.Rows L2
open C8 (Cal Met Mak pe_c pe_mk pe_mt pe_mt0)
structure ShOk (ns : List Node) : Prop where
  ne : ns ≠ []
  len : ns.length ≤ 5000
  kid : ∀ (i : Nat) (x : Node), ns[i]? = some x → ∀ c ∈ x.2.kids, c < i
  ok : ∀ x ∈ ns, x.2.ok
  fl : ∀ x ∈ ns, x.1.flatten.length ≤ 90000 ∧ (varsOf x.1).length < 64
def addK (ks : List Nat) (c : Nat) : List Nat := if ks.contains c then ks else ks ++ [c]
def kidsAt (ns : List Node) (i : Nat) : List Nat := match ns[i]? with
  | some x => x.2.kids
  | none => []
def reachK (ns : List Node) : Nat → List Nat
  | 0 => [ns.length - 1]
  | m + 1 => if (reachK ns m).contains (ns.length - 1 - m) then (kidsAt ns (ns.length - 1 - m)).foldl addK (reachK ns m) else reachK ns m
theorem reachK_succ (ns : List Node) (m : Nat) : reachK ns (m + 1) = if (reachK ns m).contains (ns.length - 1 - m) then (kidsAt ns (ns.length - 1 - m)).foldl addK (reachK ns m) else reachK ns m := rfl
def reachedOf (ns : List Node) : List Int := sortI ((reachK ns ns.length).map fun (k : Nat) => (k : Int))
def kd (ks : List Nat) : KD := ks.map fun (k : Nat) => (.inl (k : Int), .bool true)
theorem kd_has (ks : List Nat) (c : Nat) : (dval (kd ks) (.inl (c : Int))).isSome = ks.contains c := by
  rw [dval_some]
  unfold kd hasK
  rw [List.map_map]
  induction ks with
  | nil => rfl
  | cons k ks ih =>
    rw [List.map_cons, List.any_cons, List.contains_cons, ih]
    congr 1
    show decide ((Sum.inl (k : Int) : Key) = .inl (c : Int)) = (c == k)
    by_cases h : c = k
    · subst h; simp
    · have : ¬ (Sum.inl (k : Int) : Key) = .inl (c : Int) := fun e => h (by have := Sum.inl.inj e; omega)
      rw [decide_eq_false this]
      symm
      simpa using h
theorem kd_put (ks : List Nat) (c : Nat) : dput (kd ks) (.inl (c : Int)) (.bool true) = kd (addK ks c) := by
  unfold dput addK
  rw [kd_has]
  split
  · unfold kd
    rw [List.map_map]
    refine List.map_congr_left fun k _ => ?_
    show (if (Sum.inl (k : Int) : Key) = .inl (c : Int) then ((Sum.inl (k : Int) : Key), PyData.bool true) else (.inl (k : Int), .bool true)) = _
    split <;> rfl
  · unfold kd
    rw [List.map_append]
    rfl
theorem nodup_addK {ks : List Nat} {c : Nat} (h : ks.Nodup) : (addK ks c).Nodup := by
  unfold addK
  split
  · exact h
  · rename_i q
    rw [List.nodup_append]
    refine ⟨h, by simp, fun a ha b hb e => ?_⟩
    rw [List.mem_singleton.mp hb] at e
    subst e
    simp at q
    exact q ha
theorem mem_addK {ks : List Nat} {c x : Nat} (h : x ∈ addK ks c) : x ∈ ks ∨ x = c := by
  unfold addK at h
  split at h
  · exact .inl h
  · rcases List.mem_append.mp h with h | h
    · exact .inl h
    · exact .inr (List.mem_singleton.mp h)
theorem addKs_ok {n : Nat} : ∀ {cs ks : List Nat}, ks.Nodup → (∀ k ∈ ks, k < n) → (∀ c ∈ cs, c < n) → (cs.foldl addK ks).Nodup ∧ ∀ k ∈ cs.foldl addK ks, k < n
  | [], _, h1, h2, _ => ⟨h1, h2⟩
  | c :: cs, ks, h1, h2, h3 => addKs_ok (cs := cs) (nodup_addK h1) (fun k hk => by
    rcases mem_addK hk with h | rfl
    · exact h2 k h
    · exact h3 _ List.mem_cons_self) fun c hc => h3 c (List.mem_cons_of_mem _ hc)
theorem range_len {n : Nat} {ks : List Nat} (h1 : ks.Nodup) (h2 : ∀ k ∈ ks, k < n) : ks.length ≤ n := by
  have := nodup_sub_len h1 (zs := List.range n) fun k hk => List.mem_range.mpr (h2 k hk)
  rwa [List.length_range] at this
theorem kidsAt_lt {ns : List Node} (h : ShOk ns) {i : Nat} : ∀ c ∈ kidsAt ns i, c < ns.length := by
  intro c hc
  unfold kidsAt at hc
  split at hc
  · rename_i x hx
    have := h.kid i x hx c hc
    have := (List.getElem?_eq_some_iff.mp hx).1
    omega
  · cases hc
theorem reachK_ok {ns : List Node} (h : ShOk ns) : ∀ m, (reachK ns m).Nodup ∧ ∀ k ∈ reachK ns m, k < ns.length
  | 0 => ⟨by simp [reachK], fun k hk => by
    have e : k = ns.length - 1 := by simpa [reachK] using hk
    have := List.length_pos_iff.mpr h.ne
    omega⟩
  | m + 1 => by
    obtain ⟨h1, h2⟩ := reachK_ok h m
    unfold reachK
    split
    · exact addKs_ok h1 h2 (kidsAt_lt h)
    · exact ⟨h1, h2⟩
theorem mem_reachedOf {ns : List Node} (h : ShOk ns) {i : Int} (hi : i ∈ reachedOf ns) : ∃ k : Nat, i = k ∧ k < ns.length := by
  have := (sortI_perm _).mem_iff.mp hi
  obtain ⟨k, hk, rfl⟩ := List.mem_map.mp this
  exact ⟨k, rfl, (reachK_ok h ns.length).2 k hk⟩
theorem atI_nat {ds : List PyData} {k : Nat} {d : PyData} (h : ds[k]? = some d) : atI ds (k : Int) = some d := by
  have hk := (List.getElem?_eq_some_iff.mp h).1
  have e : ixN ds.length (k : Int) = some k := by
    unfold ixN
    rw [if_pos (by omega), if_pos (by omega)]
    rfl
  unfold atI
  rw [e]
  exact h
section
variable {K : PySem.W.Frag} {H0 Hk H H' : Hp} {σ : L2.St} {Γ : List Sl} {ta tb tc : TE} {t : TS} {D : Ends} {i : Nat}
theorem s_rngD {n : Nat} (ha : ET K ta σ H (.int ((n : Int) - 1))) (hb : ∀ H2, Same H H2 → ET K tb σ H2 (.int (-1))) (hc : ∀ H2, Same H H2 → ET K tc σ H2 (.int (-1))) (hn : n ≤ 100000) (R : Rel K H0 Hk H σ Γ) (G : Nat → List Sl) (h0 : Γ = G 0)
    (turn : ∀ (Hm : Hp) (m : Nat) (σ' : L2.St) (H' : Hp), m < n → Rel K H0 Hm H' σ' ((G m).set i (.t (.int ((n - 1 - m : Nat) : Int)))) → t { D with nx := fun σ2 H2 => Rel K H0 Hm H2 σ2 (G (m + 1)), ct := fun σ2 H2 => Rel K H0 Hm H2 σ2 (G (m + 1)), bk := D.nx } σ' H')
    (k : ∀ σ' H', Rel K H0 Hk H' σ' (G n) → D.nx σ' H') : tFor (iRng3 (tCons ta (tCons tb (tCons tc tNil)))) (gName i) t D σ H :=
  ha H (.refl _) _ fun v1 H1 e1 q1 => hb H e1' H1 e1 _ fun v2 H2 e2 q2 => hc H e1' H2 (e1.trans e2) _ fun v3 H3 e3 q3 => by
    have R3 := ((R.same e1).same e2).same e3
    have hr := RgC.neg (i := (n : Int) - 1) (j := -1) (by omega) (by omega) (by omega) (by omega)
    have en : ((n : Int) - 1 - -1).toNat = n := by omega
    rw [en] at hr
    refine ⟨(n : Int) - 1, -1, -1, n, by rw [q1.i, q2.i, q3.i], hr, for_rangeC (fun m σ' H' => Rel K H0 H3 H' σ' (G m)) (h0 ▸ R3.rebase) (fun m σ' H' hm R' => ?_) fun σ' H' R' => k σ' H' (R3.back R')⟩
    have e : (n : Int) - 1 + (m : Nat) * (-1 : Int) = ((n - 1 - m : Nat) : Int) := by omega
    rw [e]
    exact turn H3 m _ H' hm (R'.set_t i (.int _))
where e1' : Same H H := .refl H
end
def Preached (as : List Ar) (ds : List PyData) : Prop := ∃ (S Hd : List Int) (R0 : Rs) (ns : List Node), as = [.t (dSh S Hd R0 ns)] ∧ ShOk ns ∧ ds = (reachedOf ns).map .int
def Pis_open (as : List Ar) (d : PyData) : Prop := ∃ (S Hd : List Int) (R0 : Rs) (ns : List Node), as = [.t (dSh S Hd R0 ns)] ∧ ShOk ns ∧ d = .bool false
/-! ### policies -/
inductive Od where
  | least | most | row (ns : List Int)
def dO : Od → PyData
  | .least => .tuple [.str "least"]
  | .most => .tuple [.str "most"]
  | .row ns => .tuple [.str "row", dC ns]
structure Pol where
  od : Od
  p1 : Bool
  p2 : Bool
  p3 : Bool
  p4 : Bool
def dP (p : Pol) : PyData := .tuple [dO p.od, .bool p.p1, .bool p.p2, .bool p.p3, .bool p.p4]
def RowOk (ns : List Int) : Prop := ns.Nodup ∧ ns.length < 64 ∧ ∀ v ∈ ns, 1 ≤ v ∧ v ≤ 999
def Od.ok : Od → Prop
  | .row ns => RowOk ns
  | _ => True
theorem shp_least : Shp 1 (.str "least") := ⟨by rw [PyData.canLay0]; decide +kernel, by rw [PyData.depth]; omega⟩
theorem shp_most : Shp 1 (.str "most") := ⟨by rw [PyData.canLay0]; decide +kernel, by rw [PyData.depth]; omega⟩
theorem shp_row : Shp 1 (.str "row") := ⟨by rw [PyData.canLay0]; decide +kernel, by rw [PyData.depth]; omega⟩
theorem shp_least1 : Shp 2 (.tuple [.str "least"]) := shp_tup fun d hd => by obtain rfl := List.mem_singleton.mp hd; exact shp_least
theorem shp_most1 : Shp 2 (.tuple [.str "most"]) := shp_tup fun d hd => by obtain rfl := List.mem_singleton.mp hd; exact shp_most
def isLM : Od → Bool
  | .row _ => false
  | _ => true
theorem lm_eq (o : Od) : (PyData.eqv (dO o) (.tuple [.str "least"]) || PyData.eqv (dO o) (.tuple [.str "most"])) = isLM o := by
  cases o with
  | least => decide +kernel
  | most => decide +kernel
  | row ns =>
    show (PyData.eqv (.tuple [.str "row", dC ns]) _ || PyData.eqv (.tuple [.str "row", dC ns]) _) = false
    simp [PyData.eqv, PyData.eqvAll]
def Pis_row (as : List Ar) (d : PyData) : Prop := ∃ ns : List Int, as = [.t (dC ns)] ∧ RowOk ns ∧ d = .bool true
def Pis_order (as : List Ar) (d : PyData) : Prop := ∃ o : Od, as = [.t (dO o)] ∧ o.ok ∧ d = .bool true
def Pis_policy (as : List Ar) (d : PyData) : Prop := ∃ p : Pol, as = [.t (dP p)] ∧ p.od.ok ∧ d = .bool true
def Premost_used (as : List Ar) : Prop := ∃ (vs : List Int) (R : Rs), as = [.t (dC vs), .t (dR R)] ∧ vs ≠ [] ∧ Sm R
def Pomost_used (as : List Ar) (r : Rz) : Prop := ∃ (vs : List Int) (R : Rs) (v : Int), as = [.t (dC vs), .t (dR R)] ∧ v ∈ vs ∧ r = .t (.int v)
def Prechosen (as : List Ar) : Prop := ∃ (S Hd : List Int) (R0 : Rs) (p : Pol) (R : Rs), as = [.t (dF S Hd R0), .t (dP p), .t (dR R)] ∧ Sm R ∧ R.flatten.length ≤ 90000 ∧ (varsOf R).length < 64 ∧ shownOf S R ≠ []
def Pochosen (as : List Ar) (r : Rz) : Prop := ∃ (S Hd : List Int) (R0 : Rs) (p : Pol) (R : Rs) (v : Int), as = [.t (dF S Hd R0), .t (dP p), .t (dR R)] ∧ v ∈ shownOf S R ∧ r = .t (.int v)
theorem kit_tt : kitB "tuple" "tuple" = some true := by decide +kernel
theorem kit_ii : kitB "int" "int" = some true := by decide +kernel
theorem kit_ib : kitB "int" "bool" = some false := by decide +kernel
theorem kit_bb : kitB "bool" "bool" = some true := by decide +kernel
theorem k_isi {X : Cx} (K : PySem.W.Frag) (h : X.K = K) : CallR X (.builtin "isinstance") (rIsi K) := h ▸ call_isi
theorem s_retEX {K : PySem.W.Frag} {te : TE} {σ : L2.St} {H : Hp} {Φ : Rz → Prop} {Q : VK} {nx bk ct : L2.St → Hp → Prop} (h : EX K te σ H Φ) (k : ∀ r v H', Φ r → Same H H' → RzOk K H H' v r → Q v H') : tRet te ⟨nx, Q, bk, ct⟩ σ H := h H (.refl _) Q k
section
variable {P : Program} {w : World} {K : PySem.W.Frag} {mg : Str → Option Value} {base : Heap}
abbrev Nreached : List Str := ["sheet", "nodes", "found", "number", "child"]
theorem sc_reached : FnScope Nreached ["sheet"] (defScope sQreached) := ⟨rfl, rfl, rfl, by decide +kernel, rfl, by decide +kernel, by decide +kernel⟩
theorem cal_reached (T : Tx K mg base) : Cal P w K mg base 2 "reached" (spL K Preached) [] := by
  have sc := sc_reached
  refine cal_l T 20 20 rfl rfl sc (fun _ _ _ _ _ _ us hl => match us, hl with | [_], _ => rfl) (fun as d h => ?_) (by decide) fun cdv A outer s H Q E hr => ?_
  · (first | (obtain ⟨_, rfl, _⟩ := h; rfl) | (obtain ⟨_, _, rfl, _⟩ := h; rfl) | (obtain ⟨_, _, _, rfl, _⟩ := h; rfl) | (obtain ⟨_, _, _, _, rfl, _⟩ := h; rfl) | (obtain ⟨_, _, _, _, _, rfl, _⟩ := h; rfl) | (obtain ⟨_, _, _, _, _, _, rfl, _⟩ := h; rfl))
  refine ⟨_, (pss_cons (ps_set (i := 1) sc.nd rfl (by first | exact Or.inl rfl | exact Or.inr rfl) (pe_ix ix_tup (pv 0) pe_int (fun _ _ => rfl)))
    (pss_cons (ps_set (i := 2) sc.nd rfl (by first | exact Or.inl rfl | exact Or.inr rfl) (pe_disp (pps_cons (pe_op op_sub (pe_callB call_len_seq (by rfl) T.f_len (by decide +kernel) (pa_cons (pv 1) pa_nil)) pe_int) pe_bl pps_nil) rfl rfl (by simp) (by decide)))
    (pss_cons (ps_for PassesOwn.never rfl (pi_range3 rfl T.f_range (pa_cons (pe_op op_sub (pe_callB call_len_seq (by rfl) T.f_len (by decide +kernel) (pa_cons (pv 1) pa_nil)) pe_int) (pa_cons (pe_un un_neg pe_int) (pa_cons (pe_un un_neg pe_int) pa_nil)))) (pg_name (i := 3) sc.nd rfl (by first | exact Or.inl rfl | exact Or.inr rfl))
      (pss_one (ps_if (pt_cmp (pc_din (hu_of hr) (pv 3) (pv 2)))
        (pss_one (ps_for PassesOwn.never rfl (pi_tup (pe_c (cal_children_of T) hr (by decide) rfl (pa_cons (pe_ix ix_tup (pe_ix ix_tup (pv 1) (pv 3) (fun _ _ => rfl)) pe_int (fun _ _ => rfl)) pa_nil))) (pg_name (i := 4) sc.nd rfl (by first | exact Or.inl rfl | exact Or.inr rfl))
          (pss_one (ps_dput (hu_of hr) (pv 2) (pv 4) pe_bl rfl))))
        pss_nil)))
    (pss_one (ps_ret (pe_callB cr_sortedI (by rfl) T.f_sorted (by decide +kernel) (pa_cons (pe_callTy (call_list_dK rfl) (by rfl) T.f_list (by decide +kernel) (pa_cons (pv 2) pa_nil)) pa_nil))))))), fun as d h k σ R => ?_⟩
  obtain ⟨S, Hd, R0, ns, rfl, hS, rfl⟩ := h
  have hpos := List.length_pos_iff.mpr hS.ne
  have hlen := hS.len
  refine sq (s_set R (et_ixT (et_v R rfl) et_int (d := .tuple (ns.map encN)) rfl) fun σ1 H1 _ R1 => ?_)
  have elen : ((ns.map encN).length : Int) - 1 = ((ns.length - 1 : Nat) : Int) := by rw [List.length_map]; omega
  refine sq (s_setW R1 (ew_disp1 (n := ((ns.length - 1 : Nat) : Int)) (d := .bool true) (fun H2 e2 => ET.eq (et_i (et_lenT (et_v (R1.same e2) rfl)) et_int) (by rw [elen])) fun H2 e2 => et_bl) fun p σ2 H2 _ R2 => ?_)
  refine sq (s_rngD (n := ns.length) (i := 3) (ET.eq (et_i (et_lenT (et_v R2 rfl)) et_int) (by rw [List.length_map])) (fun H3 e3 => et_neg et_int) (fun H3 e3 => et_neg et_int) (by omega) R2 (fun m => [.t (dSh S Hd R0 ns), .t (.tuple (ns.map encN)), Sl.w p (.dk (kd (reachK ns m))), .any, .any]) rfl (fun Hm m σ3 H3 hm R3 => ?_) fun σ3 H3 R3 => ?_)
  · obtain ⟨r1, r2⟩ := reachK_ok hS m
    have hx : ns.length - 1 - m < ns.length := by omega
    refine s_if (eb_B (et_din (et_v R3 rfl) (dk_w R3 rfl))) (fun hb H4 e4 => ?_) fun hb H4 e4 => ?_
    · rw [kd_has] at hb
      have R4 := R3.same e4
      have hget : ns[ns.length - 1 - m]? = some ns[ns.length - 1 - m] := List.getElem?_eq_getElem hx
      have hk : kidsAt ns (ns.length - 1 - m) = ns[ns.length - 1 - m].2.kids := by unfold kidsAt; rw [hget]
      refine s_for (xs := ns[ns.length - 1 - m].2.kids) (enc := dN) R4 (fun j => [.t (dSh S Hd R0 ns), .t (.tuple (ns.map encN)), Sl.w p (.dk (kd ((ns[ns.length - 1 - m].2.kids.take j).foldl addK (reachK ns m)))), .t (.int ((ns.length - 1 - m : Nat) : Int)), .any]) (et_call (ea_t (et_ixT (et_ixT (et_v R4 rfl) (et_v R4 rfl) (d := encN ns[ns.length - 1 - m]) (atI_nat (by rw [List.getElem?_map, hget]; rfl))) et_int (d := encR ns[ns.length - 1 - m].2) rfl) ea_nil) ⟨_, rfl, rfl⟩) rfl (fun Hn j c σ5 H5 hc R5 => ?_) fun σ5 H5 R5 => ?_
      · have hks := addKs_ok (cs := ns[ns.length - 1 - m].2.kids.take j) r1 r2 fun c hc => kidsAt_lt hS c (by rw [hk]; exact List.mem_of_mem_take hc)
        have hl := range_len hks.1 hks.2
        refine s_dput R5 rfl et_bl (fun H' R' _ => et_v R' rfl) (by unfold kd; rw [List.length_map]; omega) fun H6 R6 => (R6.forget 4).eq ?_
        rw [kd_put, List.take_add_one, hc, Option.toList_some, List.foldl_append]
        rfl
      · refine (R5.forget 3).eq ?_
        rw [List.take_length]
        show _ = [.t (dSh S Hd R0 ns), .t (.tuple (ns.map encN)), Sl.w p (.dk (kd (reachK ns (m + 1)))), .any, .any]
        rw [reachK_succ, if_pos hb, hk]
        rfl
    · rw [kd_has] at hb
      refine ((R3.same e4).forget 3).eq ?_
      show _ = [.t (dSh S Hd R0 ns), .t (.tuple (ns.map encN)), Sl.w p (.dk (kd (reachK ns (m + 1)))), .any, .any]
      rw [reachK_succ, if_neg (by rw [hb]; exact Bool.false_ne_true)]
      rfl
  · refine s_retL R3 (EL.eq (el_sortedI (ns := (reachK ns ns.length).map fun (k : Nat) => (k : Int)) (EL.e1 (EL.eq (el_listD R3 (i := 2) rfl) ?_))) rfl) k
    unfold kd
    rw [List.map_map, List.map_map]
    rfl
abbrev Nis_open : List Str := ["sheet", "number"]
theorem sc_is_open : FnScope Nis_open ["sheet"] (defScope sQis_open) := ⟨rfl, rfl, rfl, by decide +kernel, rfl, by decide +kernel, by decide +kernel⟩
theorem cal_is_open (T : Tx K mg base) : Cal P w K mg base 3 "is_open" (spT K Pis_open) [] := by
  have sc := sc_is_open
  refine cal_t T 21 21 rfl rfl sc (fun _ _ _ _ _ _ us hl => match us, hl with | [_], _ => rfl) (fun as d h => ?_) (by decide) fun cdv A outer s H Q E hr => ?_
  · (first | (obtain ⟨_, rfl, _⟩ := h; rfl) | (obtain ⟨_, _, rfl, _⟩ := h; rfl) | (obtain ⟨_, _, _, rfl, _⟩ := h; rfl) | (obtain ⟨_, _, _, _, rfl, _⟩ := h; rfl) | (obtain ⟨_, _, _, _, _, rfl, _⟩ := h; rfl) | (obtain ⟨_, _, _, _, _, _, rfl, _⟩ := h; rfl))
  refine ⟨_, (pss_one (ps_ret (pe_callB (cr_any rfl) (by rfl) T.f_any (by decide +kernel) (pa_cons (pe_lc (own := [("number", 1)]) rfl sc.nd (pi_list (pe_c (cal_reached T) hr (by decide) rfl (pa_cons (pv 0) pa_nil))) (blkOk_by (own := [("number", 1)]) (N := Nis_open) (sc := defScope sQis_open) (by decide +kernel)) (fun _ _ _ _ _ => (pg_name (i := 1) sc.nd rfl (Or.inl rfl))) (fun _ _ _ _ _ => pts_nil) (fun _ _ _ _ _ => (pe_cmpR (k_eqD K rfl (u64 hr)) (pe_ix (k_ix_tup K rfl) (pe_ix (k_ix_tup K rfl) (pe_ix (k_ix_tup K rfl) (pv 0) pe_int (fun _ _ => rfl)) (pv 1) (fun _ _ => rfl)) pe_int (fun _ _ => rfl)) (pe_tup (pa_cons pe_str pa_nil)) (nomark _)))) pa_nil)))), fun as d h k σ R => ?_⟩
  obtain ⟨S, Hd, R0, ns, rfl, hS, rfl⟩ := h
  have hlen : (reachedOf ns).length ≤ 100000 := by
    unfold reachedOf
    rw [(sortI_perm _).length_eq, List.length_map]
    have := range_len (reachK_ok hS ns.length).1 (reachK_ok hS ns.length).2
    have := hS.len
    omega
  refine s_retT R (ET.eq (et_any (bs := (reachedOf ns).map fun _ => false) (EL.e1 (EL.eq (el_mapL (xs := reachedOf ns) (enc := .int) (f := fun _ => .bool false) R (EL.e1 (el_call (ea_t (et_v R rfl) ea_nil) ⟨S, Hd, R0, ns, rfl, hS, rfl⟩)) hlen fun m i hi σ1 H1 R1 e1 => ?_) (by rw [List.map_map]; rfl)))) (by rw [List.any_map]; simp)) k
  obtain ⟨j, rfl, hj⟩ := mem_reachedOf hS (List.mem_of_getElem? hi)
  have hget : ns[j]? = some ns[j] := List.getElem?_eq_getElem hj
  have hok := hS.ok ns[j] (List.getElem_mem hj)
  refine ET.eq (et_eqD (d := encR ns[j].2) (e := .tuple [.str "open"]) (et_ixT (et_ixT (et_ixT (et_v R1 rfl) et_int (d := .tuple (ns.map encN)) rfl) (et_v R1 rfl) (d := encN ns[j]) (atI_nat (by rw [List.getElem?_map, hget]; rfl))) et_int rfl) (et_tup (ds := [_]) (ea_t et_str ea_nil)) (shp_encR hok).shaped (by decide +kernel)) ?_
  unfold encR
  rw [PyData.eqv, PyData.eqvAll, eqv_str, tg_open]
  rfl
abbrev Nis_row : List Str := ["value", "v"]
theorem sc_is_row : FnScope Nis_row ["value"] (defScope sQis_row) := ⟨rfl, rfl, rfl, by decide +kernel, rfl, by decide +kernel, by decide +kernel⟩
theorem cal_is_row (T : Tx K mg base) : Cal P w K mg base 1 "is_row" (spT K Pis_row) [] := by
  have sc := sc_is_row
  refine cal_t T 42 42 rfl rfl sc (fun _ _ _ _ _ _ us hl => match us, hl with | [_], _ => rfl) (fun as d h => ?_) (by decide) fun cdv A outer s H Q E hr => ?_
  · (first | (obtain ⟨_, rfl, _⟩ := h; rfl) | (obtain ⟨_, _, rfl, _⟩ := h; rfl) | (obtain ⟨_, _, _, rfl, _⟩ := h; rfl) | (obtain ⟨_, _, _, _, rfl, _⟩ := h; rfl) | (obtain ⟨_, _, _, _, _, rfl, _⟩ := h; rfl) | (obtain ⟨_, _, _, _, _, _, rfl, _⟩ := h; rfl))
  refine ⟨_, (pss_cons (ps_if (pt_not (pt_val (pe_callB call_isi (by rfl) T.f_isinstance (by decide +kernel) (pa_cons (pv 0) (pa_cons (pe_bltn (v := .ty "tuple") rfl T.f_tuple (by decide +kernel) rfl) pa_nil)))))
      (pss_one (ps_ret pe_bl))
      pss_nil)
    (pss_cons (ps_for PassesOwn.never rfl (pi_tup (pv 0)) (pg_name (i := 1) sc.nd rfl (by first | exact Or.inl rfl | exact Or.inr rfl))
      (pss_one (ps_if (PW.pt (pw_or (pt_not (pt_val (pe_callB call_isi (by rfl) T.f_isinstance (by decide +kernel) (pa_cons (pv 1) (pa_cons (pe_bltn (v := .ty "int") rfl T.f_int (by decide +kernel) rfl) pa_nil))))) (pw_or (pt_val (pe_callB call_isi (by rfl) T.f_isinstance (by decide +kernel) (pa_cons (pv 1) (pa_cons (pe_bltn (v := .ty "bool") rfl T.f_bool (by decide +kernel) rfl) pa_nil)))) (pw_or1 (pt_not (pt_chain op_le op_le pe_int (pv 1) pe_int))))))
        (pss_one (ps_ret pe_bl))
        pss_nil)))
    (pss_one (ps_ret (pe_cmpR op_eq (pe_lenSetT rfl rfl T.f_len rfl T.f_set (pv 0)) (pe_callB call_len_seq (by rfl) T.f_len (by decide +kernel) (pa_cons (pv 0) pa_nil)) (nomark _)))))), fun as d h k σ R => ?_⟩
  obtain ⟨ns, rfl, ⟨h1, h2, h3⟩, rfl⟩ := h
  refine sq (s_if (b := false) (eb_not (b := true) (eb_B (et_isi (et_v R rfl) kit_tt))) (fun hb => by cases hb) fun _ H1 e1 => ?_)
  have R1 := R.same e1
  dsimp only
  refine sq (s_for (xs := ns) (enc := .int) R1 (fun m => [.t (dC ns), .any]) (et_v R1 rfl) rfl (fun Hm m v σ2 H2 hv R2 => ?_) fun σ2 H2 R2 => ?_)
  · obtain ⟨v1, v2⟩ := h3 v (List.mem_of_getElem? hv)
    refine s_if (b := false) (EB.eq (eb_or (eb_not (b := true) (eb_B (et_isi (et_v R2 rfl) kit_ii))) fun _ => eb_or (b := false) (eb_B (et_isi (et_v R2 rfl) kit_ib)) fun _ => eb_not (b := true) (EB.eq (eb_B (et_chain (et_int) (et_v R2 rfl) et_int)) ?_)) rfl) (fun hb => by cases hb) fun _ H3 e3 => ((R2.same e3).forget 1).eq rfl
    simp
    omega
  · refine s_retT R2 (ET.eq (et_eqI (et_lenSetT (et_v R2 rfl) h2 h1) (et_lenT (et_v R2 rfl))) (by rw [List.length_map]; simp)) k
abbrev Nis_order : List Str := ["value"]
theorem sc_is_order : FnScope Nis_order ["value"] (defScope sQis_order) := ⟨rfl, rfl, rfl, by decide +kernel, rfl, by decide +kernel, by decide +kernel⟩
theorem cal_is_order (T : Tx K mg base) : Cal P w K mg base 2 "is_order" (spT K Pis_order) [] := by
  have sc := sc_is_order
  refine cal_t T 43 43 rfl rfl sc (fun _ _ _ _ _ _ us hl => match us, hl with | [_], _ => rfl) (fun as d h => ?_) (by decide) fun cdv A outer s H Q E hr => ?_
  · (first | (obtain ⟨_, rfl, _⟩ := h; rfl) | (obtain ⟨_, _, rfl, _⟩ := h; rfl) | (obtain ⟨_, _, _, rfl, _⟩ := h; rfl) | (obtain ⟨_, _, _, _, rfl, _⟩ := h; rfl) | (obtain ⟨_, _, _, _, _, rfl, _⟩ := h; rfl) | (obtain ⟨_, _, _, _, _, _, rfl, _⟩ := h; rfl))
  refine ⟨_, (pss_cons (ps_if (PW.pt (pw_or (pt_not (pt_val (pe_callB call_isi (by rfl) T.f_isinstance (by decide +kernel) (pa_cons (pv 0) (pa_cons (pe_bltn (v := .ty "tuple") rfl T.f_tuple (by decide +kernel) rfl) pa_nil))))) (pw_or1 (pt_cmpR op_eq (pe_callB call_len_seq (by rfl) T.f_len (by decide +kernel) (pa_cons (pv 0) pa_nil)) pe_int (nomark _)))))
      (pss_one (ps_ret pe_bl))
      pss_nil)
    (pss_cons (ps_if (PW.pt (pw_or (pt_cmpR (op_eqD (u64 hr)) (pv 0) (pe_tup (pa_cons pe_str pa_nil)) (nomark _)) (pw_or1 (pt_cmpR (op_eqD (u64 hr)) (pv 0) (pe_tup (pa_cons pe_str pa_nil)) (nomark _)))))
      (pss_one (ps_ret pe_bl))
      pss_nil)
    (pss_one (ps_ret (pe_and (pe_cmpR op_eq (pe_callB call_len_seq (by rfl) T.f_len (by decide +kernel) (pa_cons (pv 0) pa_nil)) pe_int (nomark _)) (pe_and (pe_cmpR (op_eqD (u64 hr)) (pe_ix ix_tup (pv 0) pe_int (fun _ _ => rfl)) pe_str (nomark _)) (pe_one (pe_c (cal_is_row T) hr (by decide) rfl (pa_cons (pe_ix ix_tup (pv 0) pe_int (fun _ _ => rfl)) pa_nil))))))))), fun as d h k σ R => ?_⟩
  obtain ⟨o, rfl, ho, rfl⟩ := h
  have hsh : Shp 2 (dO o) := by
    cases o with
    | least => exact shp_tup (n := 1) fun d hd => by obtain rfl := List.mem_singleton.mp hd; exact shp_least
    | most => exact shp_tup (n := 1) fun d hd => by obtain rfl := List.mem_singleton.mp hd; exact shp_most
    | row ns =>
      refine shp_tup (n := 1) fun d hd => ?_
      rcases List.mem_cons.mp hd with rfl | hd
      · exact shp_row
      · obtain rfl := List.mem_singleton.mp hd; exact shp_dC ns
  have h1 : tyName (dO o) = "tuple" := by cases o <;> rfl
  obtain ⟨ds, hds, hpos⟩ : ∃ ds, dO o = .tuple ds ∧ ds ≠ [] := by cases o <;> exact ⟨_, rfl, by simp⟩
  refine sq (s_if (b := false) (EB.eq (eb_or (eb_not (b := true) (eb_B (et_isi (et_v R rfl) (by rw [h1]; exact kit_tt)))) fun _ => eb_t (et_eqI (et_lenT (ds := ds) (ET.eq (et_v R rfl) hds)) et_int)) (by simpa using hpos)) (fun hb => by cases hb) fun _ H1 e1 => ?_)
  have R1 := R.same e1
  dsimp only
  refine sq (s_if (b := isLM o) (EB.eq (eb_or (eb_t (et_eqD (e := .tuple [.str "least"]) (et_v R1 rfl) (et_tup (ds := [_]) (ea_t et_str ea_nil)) hsh.shaped shp_least1.shaped)) fun _ => eb_t (et_eqD (e := .tuple [.str "most"]) (et_v R1 rfl) (et_tup (ds := [_]) (ea_t et_str ea_nil)) hsh.shaped shp_most1.shaped)) (lm_eq o)) (fun hb H2 e2 => s_retT (R1.same e2) et_bl k) fun hb H2 e2 => ?_)
  have R2 := R1.same e2
  match o, ho, hb, R2 with
  | .row ns, ho, _, R2 =>
    exact s_retT R2 (ET.eq (et_andV (b := true) (ET.eq (et_eqI (et_lenT (et_v R2 rfl)) et_int) (by rfl)) fun _ => et_andV (b := true) (ET.eq (et_eqD (d := .str "row") (e := .str "row") (et_ixT (et_v R2 rfl) et_int rfl) et_str shp_row.shaped shp_row.shaped) (by rw [eqv_str]; simp)) fun _ => et_call (ea_t (et_ixT (et_v R2 rfl) et_int (d := dC ns) rfl) ea_nil) ⟨ns, rfl, ho, rfl⟩) rfl) k
abbrev Nis_policy : List Str := ["value", "part"]
theorem sc_is_policy : FnScope Nis_policy ["value"] (defScope sQis_policy) := ⟨rfl, rfl, rfl, by decide +kernel, rfl, by decide +kernel, by decide +kernel⟩
theorem cal_is_policy (T : Tx K mg base) : Cal P w K mg base 3 "is_policy" (spT K Pis_policy) [] := by
  have sc := sc_is_policy
  refine cal_t T 44 44 rfl rfl sc (fun _ _ _ _ _ _ us hl => match us, hl with | [_], _ => rfl) (fun as d h => ?_) (by decide) fun cdv A outer s H Q E hr => ?_
  · (first | (obtain ⟨_, rfl, _⟩ := h; rfl) | (obtain ⟨_, _, rfl, _⟩ := h; rfl) | (obtain ⟨_, _, _, rfl, _⟩ := h; rfl) | (obtain ⟨_, _, _, _, rfl, _⟩ := h; rfl) | (obtain ⟨_, _, _, _, _, rfl, _⟩ := h; rfl) | (obtain ⟨_, _, _, _, _, _, rfl, _⟩ := h; rfl))
  refine ⟨_, (pss_cons (ps_if (PW.pt (pw_or (pt_not (pt_val (pe_callB call_isi (by rfl) T.f_isinstance (by decide +kernel) (pa_cons (pv 0) (pa_cons (pe_bltn (v := .ty "tuple") rfl T.f_tuple (by decide +kernel) rfl) pa_nil))))) (pw_or (pt_cmpR op_ne (pe_callB call_len_seq (by rfl) T.f_len (by decide +kernel) (pa_cons (pv 0) pa_nil)) pe_int (nomark _)) (pw_or1 (pt_not (pt_val (pe_c (cal_is_order T) hr (by decide) rfl (pa_cons (pe_ix ix_tup (pv 0) pe_int (fun _ _ => rfl)) pa_nil))))))))
      (pss_one (ps_ret pe_bl))
      pss_nil)
    (pss_one (ps_ret (pe_callB (cr_all rfl) (by rfl) T.f_all (by decide +kernel) (pa_cons (pe_lc (own := [("part", 1)]) rfl sc.nd (pi_tup (pe_slice sl_tupA (pv 0) (po_some pe_int) po_none)) (blkOk_by (own := [("part", 1)]) (N := Nis_policy) (sc := defScope sQis_policy) (by decide +kernel)) (fun _ _ _ _ _ => (pg_name (i := 1) sc.nd rfl (Or.inl rfl))) (fun _ _ _ _ _ => pts_nil) (fun _ _ _ _ _ => (pe_callB (k_isi K rfl) (by rfl) T.f_isinstance (by decide +kernel) (pa_cons (pv 1) (pa_cons (pe_bltn (v := .ty "bool") rfl T.f_bool (by decide +kernel) rfl) pa_nil))))) pa_nil))))), fun as d h k σ R => ?_⟩
  obtain ⟨p, rfl, ho, rfl⟩ := h
  refine sq (s_if (b := false) (EB.eq (eb_or (eb_not (b := true) (eb_B (et_isi (et_v R rfl) kit_tt))) fun _ => eb_or (b := false) (EB.eq (eb_t (et_neI (et_lenT (et_v R rfl)) et_int)) (by rfl)) fun _ => eb_not (b := true) (eb_B (et_call (ea_t (et_ixT (et_v R rfl) et_int (d := dO p.od) rfl) ea_nil) ⟨p.od, rfl, ho, rfl⟩))) rfl) (fun hb => by cases hb) fun _ H1 e1 => ?_)
  have R1 := R.same e1
  dsimp only
  have hsl : cutD [dO p.od, .bool p.p1, .bool p.p2, .bool p.p3, .bool p.p4] (some 1) none = [p.p1, p.p2, p.p3, p.p4].map .bool := rfl
  exact s_retT R1 (ET.eq (et_all (bs := [p.p1, p.p2, p.p3, p.p4].map fun _ => true) (EL.e1 (EL.eq (el_mapT (xs := [p.p1, p.p2, p.p3, p.p4]) (enc := .bool) (f := fun _ => .bool true) R1 (ET.eq (et_slT (et_v R1 rfl) (eo_some et_int) eo_none) (by rw [hsl])) (by simp) fun m b hb σ2 H2 R2 e2 => et_isi (d := .bool b) (et_v R2 rfl) kit_bb) rfl))) rfl) k
abbrev Nmost_used : List Str := ["variables", "residue", "best", "most", "v", "count", "clause"]
theorem sc_most_used : FnScope Nmost_used ["variables", "residue"] (defScope sQmost_used) := ⟨rfl, rfl, rfl, by decide +kernel, rfl, by decide +kernel, by decide +kernel⟩
theorem cal_most_used (T : Tx K mg base) : Cal P w K mg base 1 "most_used" (spR K Premost_used Pomost_used) [] := by
  have sc := sc_most_used
  refine cal_r T 45 45 rfl rfl sc (fun _ _ _ _ _ _ us hl => match us, hl with | [_, _], _ => rfl) (fun as h => ?_) (by decide) fun cdv A outer s H Q E hr => ?_
  · (first | (obtain ⟨_, rfl, _⟩ := h; rfl) | (obtain ⟨_, _, rfl, _⟩ := h; rfl) | (obtain ⟨_, _, _, rfl, _⟩ := h; rfl) | (obtain ⟨_, _, _, _, rfl, _⟩ := h; rfl) | (obtain ⟨_, _, _, _, _, rfl, _⟩ := h; rfl) | (obtain ⟨_, _, _, _, _, _, rfl, _⟩ := h; rfl))
  refine ⟨_, (pss_cons (ps_set (i := 2) sc.nd rfl (by first | exact Or.inl rfl | exact Or.inr rfl) (pe_ix ix_tup (pv 0) pe_int (fun _ _ => rfl)))
    (pss_cons (ps_set (i := 3) sc.nd rfl (by first | exact Or.inl rfl | exact Or.inr rfl) (pe_un un_neg pe_int))
    (pss_cons (ps_for PassesOwn.never rfl (pi_tup (pv 0)) (pg_name (i := 4) sc.nd rfl (by first | exact Or.inl rfl | exact Or.inr rfl))
      (pss_cons (ps_set (i := 5) sc.nd rfl (by first | exact Or.inl rfl | exact Or.inr rfl) (pe_callB call_len_seq (by rfl) T.f_len (by decide +kernel) (pa_cons (pe_lc (own := [("clause", 6)]) rfl sc.nd (pi_tup (pv 1)) (blkOk_by (own := [("clause", 6)]) (N := Nmost_used) (sc := defScope sQmost_used) (by decide +kernel)) (fun _ _ _ _ _ => (pg_name (i := 6) sc.nd rfl (Or.inl rfl))) (fun _ _ _ _ _ => pts_one (PW.pt (pw_or (pt_cmpR (k_in K rfl) (pv 4) (pv 6) (by rfl)) (pw_or1 (pt_cmpR (k_in K rfl) (pe_un un_neg (pv 4)) (pv 6) (by rfl)))))) (fun _ _ _ _ _ => (pv 6))) pa_nil)))
      (pss_one (ps_if (pt_cmpR op_gt (pv 5) (pv 3) (nomark _))
        (pss_cons (ps_set (i := 2) sc.nd rfl (by first | exact Or.inl rfl | exact Or.inr rfl) (pv 4))
        (pss_one (ps_set (i := 3) sc.nd rfl (by first | exact Or.inl rfl | exact Or.inr rfl) (pv 5))))
        pss_nil))))
    (pss_one (ps_ret (pv 2)))))), fun as h k σ R => ?_⟩
  obtain ⟨vs, R0, rfl, hne, hS⟩ := h
  obtain ⟨v0, us, rfl⟩ : ∃ v0 us, vs = v0 :: us := by
    cases vs with
    | nil => exact absurd rfl hne
    | cons v0 us => exact ⟨v0, us, rfl⟩
  refine sq (s_set R (et_ixT (et_v R rfl) et_int (d := .int v0) atI_hd) fun σ1 H1 _ R1 => ?_)
  refine sq (s_set R1 (et_neg et_int) fun σ2 H2 _ R2 => ?_)
  refine sq (s_forTG (xs := v0 :: us) (enc := .int) (et_v R2 rfl) fun H3 e3 => ⟨fun n σ' H' => ∃ (b m : Int), Rel K H H3 H' σ' [.t (dC (v0 :: us)), .t (dR R0), .t (.int b), .t (.int m), .any, .any, .any] ∧ b ∈ v0 :: us, ⟨v0, -1, (R2.same e3).rebase, List.mem_cons_self⟩, fun n σ' H' ⟨_, _, R', _⟩ => R'.keep, fun n v vv σ' H' hv ⟨b, m, R', hb⟩ tv => ?_, fun σ' H' ⟨b, m, R', hb⟩ => ?_⟩)
  · refine g_name (i := 4) R' tv fun σ4 R4 => ?_
    refine sq (s_set R4 (et_lenL (EL.e1 (el_compT (xs := R0) (enc := dC) (p := fun c => c.contains v || c.contains (-v)) (f := dC) R4 (et_v R4 rfl) (Nat.le_trans hS.1 (by decide)) fun j c hc σ5 H5 R5 e5 => ⟨eb_or (eb_t (et_inT (et_v R5 rfl) (et_v R5 rfl))) fun _ => eb_t (et_inT (et_neg (et_v R5 rfl)) (et_v R5 rfl)), fun _ => et_v R5 rfl⟩))) fun σ6 H6 _ R6 => ?_)
    refine s_if (eb_t (et_ib (et_v R6 rfl) (et_v R6 rfl))) (fun hb7 H7 e7 => ?_) fun hb7 H7 e7 => ?_
    · refine sq (s_set (R6.same e7) (et_v (R6.same e7) rfl) fun σ8 H8 _ R8 => ?_)
      refine s_set R8 (et_v R8 rfl) fun σ9 H9 _ R9 => ⟨_, _, ((R9.forget 4).forget 5).eq rfl, List.mem_of_getElem? hv⟩
    · exact ⟨b, m, (((R6.same e7).forget 4).forget 5).eq rfl, hb⟩
  · exact s_ret (et_v ((R2.same e3).back R') rfl) fun v H4 e4 tv => k _ v H4 ⟨_, R0, b, rfl, hb, rfl⟩ (((R2.same e3).back R').base.trans e4) tv
abbrev Nchosen : List Str := ["formula", "policy", "residue", "variables", "order", "v"]
theorem sc_chosen : FnScope Nchosen ["formula", "policy", "residue"] (defScope sQchosen) := ⟨rfl, rfl, rfl, by decide +kernel, rfl, by decide +kernel, by decide +kernel⟩
theorem cal_chosen (T : Tx K mg base) : Cal P w K mg base 3 "chosen" (spR K Prechosen Pochosen) [] := by
  have sc := sc_chosen
  refine cal_r T 46 46 rfl rfl sc (fun _ _ _ _ _ _ us hl => match us, hl with | [_, _, _], _ => rfl) (fun as h => ?_) (by decide) fun cdv A outer s H Q E hr => ?_
  · (first | (obtain ⟨_, rfl, _⟩ := h; rfl) | (obtain ⟨_, _, rfl, _⟩ := h; rfl) | (obtain ⟨_, _, _, rfl, _⟩ := h; rfl) | (obtain ⟨_, _, _, _, rfl, _⟩ := h; rfl) | (obtain ⟨_, _, _, _, _, rfl, _⟩ := h; rfl) | (obtain ⟨_, _, _, _, _, _, rfl, _⟩ := h; rfl))
  refine ⟨_, (pss_cons (ps_set (i := 3) sc.nd rfl (by first | exact Or.inl rfl | exact Or.inr rfl) (pe_c (cal_shown_of T) hr (by decide) rfl (pa_cons (pv 0) (pa_cons (pv 2) pa_nil))))
    (pss_cons (ps_set (i := 4) sc.nd rfl (by first | exact Or.inl rfl | exact Or.inr rfl) (pe_ix ix_tup (pv 1) pe_int (fun _ _ => rfl)))
    (pss_cons (ps_if (pt_cmpR (op_eqD (u64 hr)) (pe_ix ix_tup (pv 4) pe_int (fun _ _ => rfl)) pe_str (nomark _))
      (pss_one (ps_ret (pe_c (cal_most_used T) hr (by decide) rfl (pa_cons (pv 3) (pa_cons (pv 2) pa_nil)))))
      pss_nil)
    (pss_cons (ps_if (pt_cmpR (op_eqD (u64 hr)) (pe_ix ix_tup (pv 4) pe_int (fun _ _ => rfl)) pe_str (nomark _))
      (pss_one (ps_for PassesOwn.never rfl (pi_tup (pe_ix ix_tup (pv 4) pe_int (fun _ _ => rfl))) (pg_name (i := 5) sc.nd rfl (by first | exact Or.inl rfl | exact Or.inr rfl))
        (pss_one (ps_if (pt_cmpR (op_inT (u65 hr)) (pv 5) (pv 3) (by rfl))
          (pss_one (ps_ret (pv 5)))
          pss_nil))))
      pss_nil)
    (pss_one (ps_ret (pe_ix ix_tup (pv 3) pe_int (fun _ _ => rfl)))))))), fun as h k σ R => ?_⟩
  obtain ⟨S, Hd, R0, p, R1, rfl, hS, hF, hV, hne⟩ := h
  obtain ⟨v0, us, hvs⟩ : ∃ v0 us, shownOf S R1 = v0 :: us := by
    cases q : shownOf S R1 with
    | nil => exact absurd q hne
    | cons v0 us => exact ⟨v0, us, rfl⟩
  have k' : ∀ z ∈ shownOf S R1, ∀ v H', Same H H' → Td K H' v (.int z) → Q v H' := fun z hz v H' e tv => k (.t (.int z)) v H' ⟨S, Hd, R0, p, R1, z, rfl, hz, rfl⟩ e tv
  refine sq (s_set R (et_call (ea_t (et_v R rfl) (ea_t (et_v R rfl) ea_nil)) ⟨S, Hd, R0, R1, rfl, hF, hV, rfl⟩) fun σ1 H1 _ R2 => ?_)
  refine sq (s_set R2 (et_ixT (et_v R2 rfl) et_int (d := dO p.od) rfl) fun σ2 H2 _ R3 => ?_)
  have last : ∀ {σ' H'}, Rel K H H H' σ' [.t (dF S Hd R0), .t (dP p), .t (dR R1), .t (dC (shownOf S R1)), .t (dO p.od), .any] → ∀ nx bk ct, tRet (tOp (rIxT K) (tVar 3) (tC (.int 0))) ⟨nx, Q, bk, ct⟩ σ' H' := fun {σ' H'} R' nx bk ct =>
    s_retT R' (et_ixT (et_v R' rfl) et_int (d := .int v0) (by rw [hvs]; exact atI_hd)) (k' v0 (by rw [hvs]; exact List.mem_cons_self))
  have R3' : Rel K H H H2 σ2 [.t (dF S Hd R0), .t (dP p), .t (dR R1), .t (dC (shownOf S R1)), .t (dO p.od), .any] := R3.eq rfl
  dsimp only
  obtain ⟨z, ods, hod, hz⟩ : ∃ z ods, dO p.od = .tuple (.str z :: ods) ∧ Shp 1 (.str z) := by
    cases p.od with
    | least => exact ⟨_, _, rfl, shp_least⟩
    | most => exact ⟨_, _, rfl, shp_most⟩
    | row ns => exact ⟨_, _, rfl, shp_row⟩
  have hix : ∀ {σ' H'}, Rel K H H H' σ' [.t (dF S Hd R0), .t (dP p), .t (dR R1), .t (dC (shownOf S R1)), .t (dO p.od), .any] → ET K (tOp (rIxT K) (tVar 4) (tC (.int 0))) σ' H' (.str z) := fun {σ' H'} R' => et_ixT (ds := .str z :: ods) (ET.eq (et_v R' rfl) hod) et_int atI_hd
  refine sq (s_if (b := decide (z = "most")) (eb_t (ET.eq (et_eqD (hix R3') et_str hz.shaped shp_most.shaped) (by rw [eqv_str]))) (fun hb H3 e3 => ?_) fun hb H3 e3 => ?_)
  · have R4 := R3'.same e3
    refine s_retEX (ex_call (ea_t (et_v R4 rfl) (ea_t (et_v R4 rfl) ea_nil)) ⟨shownOf S R1, R1, rfl, hne, hS⟩) fun r v H4 ⟨vs', R', z', ea, hz', er⟩ e4 tv => ?_
    subst er
    have ev : shownOf S R1 = vs' := by
      have : dC (shownOf S R1) = dC vs' ∧ dR R1 = dR R' := by simpa using ea
      exact dC_inj this.1
    exact k' z' (by rw [ev]; exact hz') v H4 (R4.base.trans e4) tv
  have R4 := R3'.same e3
  dsimp only
  refine sq (s_if (b := decide (z = "row")) (eb_t (ET.eq (et_eqD (hix R4) et_str hz.shaped shp_row.shaped) (by rw [eqv_str]))) (fun hb H4 e4 => ?_) fun hb H4 e4 => last (R4.same e4) _ _ _)
  have R5 := R4.same e4
  obtain ⟨ns, hns⟩ : ∃ ns, p.od = .row ns := by
    have hz' : z = "row" := by simpa using hb
    subst hz'
    cases q : p.od with
    | row ns => exact ⟨ns, rfl⟩
    | least => rw [q] at hod; injection hod with h; injection h with h; injection h with h; exact absurd h (by decide +kernel)
    | most => rw [q] at hod; injection hod with h; injection h with h; injection h with h; exact absurd h (by decide +kernel)
  refine s_forP (xs := ns) (enc := .int) R5 (et_ixT (ds := [.str "row", dC ns]) (ET.eq (et_v R5 rfl) (by rw [hns]; rfl)) et_int rfl) (fun _ => [.t (dF S Hd R0), .t (dP p), .t (dR R1), .t (dC (shownOf S R1)), .t (dO p.od), .any]) (fun _ _ => True) rfl (fun _ _ => trivial) (fun Hm n v vv σ6 H6 hv R6 _ back tv => ?_) fun σ6 H6 R6 _ => last R6 _ _ _
  refine g_name R6 tv fun σ7 R7 => ?_
  refine s_if (b := (shownOf S R1).contains v) (eb_t (ET.eq (et_inTD (d := .int v) (ds := (shownOf S R1).map .int) (et_v R7 rfl) (et_v R7 rfl) (shp_int (n := 1)).shaped (shp_dC _).shaped) ?_)) (fun hb8 H8 e8 => ?_) fun hb8 H8 e8 => ⟨((R7.same e8).forget 5).eq rfl, trivial⟩
  · rw [List.any_map]
    simp only [Function.comp_def, eqv_int, Bool.false_xor]
    congr 1
    generalize shownOf S R1 = us
    induction us with
    | nil => rfl
    | cons u us ih =>
      rw [List.any_cons, List.contains_cons, ih]
      congr 1
      by_cases h : u = v
      · subst h; simp
      · have h2 : ¬ v = u := fun e => h e.symm
        simp [h, h2]
  · exact s_ret (et_v (R7.same e8) rfl) fun vv H9 e9 tv => k' v (by simpa using hb8) vv H9 ((R7.same e8).base.trans e9) tv
end
end CW

set_option maxRecDepth 100000
set_option maxHeartbeats 4000000
/-! walks, order: the walks. -/
namespace CW
open PySem PySem.Spec PyProof.Rows L2
open C8 (Cal Met Mak pe_c pe_mk pe_mt pe_mt0)
/-! ### mirrors -/
def wt (ls : List Int) (l : Int) : Int := if ls.contains l then 0 else 1
def prodI (xs : List Int) : Int := xs.foldl (· * ·) 1
def freeW (ls vs : List Int) : Int := prodI (vs.map fun v => wt ls v + wt ls (-v))
def ownOf (S : List Int) (ns : List Node) : List Cl := ns.map fun x => shownOf S x.1
def told (S : List Int) : Rule → List Int
  | .choice v _ _ => [v, -v]
  | .unit l c => if S.contains (iabs l) then [l] else [0]
  | r => r.kids.map fun _ => 0
def lack (own : List Cl) (i c : Nat) (l : Int) : List Int := (own.getD i []).filter fun v => (!(own.getD c []).contains v) && !decide (v = iabs l)
def wayW (ls S : List Int) (own : List Cl) (i : Nat) (r : Rule) (at_ : Nat) : Int :=
  if r.tg = .parts then 1 else freeW ls (lack own i (r.kids.getD at_ 0) ((told S r).getD at_ 0)) * if (told S r).getD at_ 0 = 0 then 1 else wt ls ((told S r).getD at_ 0)
def nodeSum (ls S : List Int) (own : List Cl) (sums : List Int) (i : Nat) (r : Rule) : Int :=
  if r.tg = .yes ∨ r.tg = .some_ then 1
  else if r.tg = .parts then prodI (r.kids.map fun c => sums.getD c 0)
  else (List.range r.kids.length).foldl (fun acc j => acc + wayW ls S own i r j * sums.getD (r.kids.getD j 0) 0) 0
def ruleAt (ns : List Node) (i : Nat) : Rule := match ns[i]? with
  | some x => x.2
  | none => .no
def vals (ls S : List Int) (ns : List Node) : Nat → List Int
  | 0 => []
  | m + 1 => vals ls S ns m ++ [nodeSum ls S (ownOf S ns) (vals ls S ns m) m (ruleAt ns m)]
def lastR (ns : List Node) : Rs := match ns[ns.length - 1]? with
  | some x => x.1
  | none => []
def outsideOf (S : List Int) (ns : List Node) : List Int := S.filter fun v => !(shownOf S (lastR ns)).contains v
def countLs (ls S : List Int) (ns : List Node) : Int := freeW ls (outsideOf S ns) * (vals ls S ns ns.length).getD (ns.length - 1) 0
def lsOf (prefix_ : List Int) : List Int := sortL (dedup [] (prefix_.map fun l => -l))
def countW (S : List Int) (ns : List Node) (pre : List Int) : Int := countLs (lsOf pre) S ns
/-- all numbers are small -/
def Bd (S : List Int) (ns : List Node) : Prop := ∀ ls, ∀ x ∈ vals ls S ns ns.length, Sm64 x
/-! ### promises -/
def Pfree_weight (as : List Ar) (d : PyData) : Prop := ∃ ls vs : List Int, as = [.t (dW ls), .l (vs.map .int)] ∧ vs.length ≤ 900 ∧ d = fr (freeW ls vs)
def Pown_variables (as : List Ar) (ds : List PyData) : Prop := ∃ (S Hd : List Int) (R0 : Rs) (ns : List Node), as = [.t (dSh S Hd R0 ns)] ∧ ShOk ns ∧ ds = (ownOf S ns).map dC
def Pliterals_told (as : List Ar) (ds : List PyData) : Prop := ∃ (S Hd : List Int) (R0 : Rs) (ns : List Node) (r : Rule), as = [.t (dSh S Hd R0 ns), .t (encR r)] ∧ r.ok ∧ ds = (told S r).map .int
def Placking (as : List Ar) (ds : List PyData) : Prop := ∃ (own : List Cl) (i c : Nat) (l : Int), as = [.l (own.map dC), .t (.int i), .t (.int c), .t (.int l)] ∧ i < own.length ∧ c < own.length ∧ (∀ x ∈ own, x.length ≤ 900) ∧ ds = (lack own i c l).map .int
def Pway_weight (as : List Ar) (d : PyData) : Prop := ∃ (S Hd : List Int) (R0 : Rs) (ns : List Node) (ls : List Int) (i j : Nat), as = [.t (dSh S Hd R0 ns), .t (dW ls), .l ((ownOf S ns).map dC), .t (.int i), .t (.int j)] ∧ ShOk ns ∧ i < ns.length ∧ j < (ruleAt ns i).kids.length ∧ d = fr (wayW ls S (ownOf S ns) i (ruleAt ns i) j)
def Pnode_sum (as : List Ar) (d : PyData) : Prop := ∃ (S Hd : List Int) (R0 : Rs) (ns : List Node) (ls sums : List Int) (i : Nat) (b : Bool), as = [.t (dSh S Hd R0 ns), .t (dW ls), .l ((ownOf S ns).map dC), .l (sums.map fr), .t (.int i), .t (.bool b)] ∧ ShOk ns ∧ i < ns.length ∧ sums.length = i ∧ (∀ x ∈ sums, Sm64 x) ∧ d = fr (nodeSum ls S (ownOf S ns) sums i (ruleAt ns i))
def Pall_sums (as : List Ar) (ds : List PyData) : Prop := ∃ (S Hd : List Int) (R0 : Rs) (ns : List Node) (ls : List Int) (b : Bool), as = [.t (dSh S Hd R0 ns), .t (dW ls), .t (.bool b)] ∧ ShOk ns ∧ Bd S ns ∧ ds = (vals ls S ns ns.length).map fr
def Poutside (as : List Ar) (ds : List PyData) : Prop := ∃ (S Hd : List Int) (R0 : Rs) (ns : List Node), as = [.t (dSh S Hd R0 ns)] ∧ ShOk ns ∧ S.length ≤ 900 ∧ ds = (outsideOf S ns).map .int
def Pbounds (as : List Ar) (d : PyData) : Prop := ∃ (S Hd : List Int) (R0 : Rs) (ns : List Node) (ls : List Int), as = [.t (dSh S Hd R0 ns), .t (dW ls)] ∧ ShOk ns ∧ Bd S ns ∧ S.length ≤ 900 ∧ d = .tuple [fr (countLs ls S ns), fr (countLs ls S ns)]
def Pdemand_closed (as : List Ar) (d : PyData) : Prop := ∃ (S Hd : List Int) (R0 : Rs) (ns : List Node), as = [.t (dSh S Hd R0 ns)] ∧ ShOk ns ∧ d = .none
def Psum_of (as : List Ar) (d : PyData) : Prop := ∃ (S Hd : List Int) (R0 : Rs) (ns : List Node) (ls : List Int), as = [.t (dSh S Hd R0 ns), .t (dW ls)] ∧ ShOk ns ∧ Bd S ns ∧ S.length ≤ 900 ∧ d = fr (countLs ls S ns)
def Pwith_prefix (as : List Ar) (d : PyData) : Prop := ∃ (pre : List Int), as = [.t (dW []), .t (dC pre)] ∧ pre.length ≤ 900 ∧ d = dW (lsOf pre)
def Pcount_with (as : List Ar) (d : PyData) : Prop := ∃ (S Hd : List Int) (R0 : Rs) (ns : List Node) (pre : List Int), as = [.t (dSh S Hd R0 ns), .t (dC pre)] ∧ ShOk ns ∧ Bd S ns ∧ S.length ≤ 900 ∧ pre.length ≤ 900 ∧ d = .int (countW S ns pre)
def Pmodel_count (as : List Ar) (d : PyData) : Prop := ∃ (S Hd : List Int) (R0 : Rs) (ns : List Node), as = [.t (dSh S Hd R0 ns)] ∧ ShOk ns ∧ Bd S ns ∧ S.length ≤ 900 ∧ d = .int (countW S ns [])
def numberW (S : List Int) (ns : List Node) (f : List Int) : Int := if countW S ns f = 0 then -1 else (List.range f.length).foldl (fun acc k => if f.getD k 0 > 0 then acc + countW S ns (f.take k ++ [-(f.getD k 0)]) else acc) 0
def Pnumber_of (as : List Ar) (d : PyData) : Prop := ∃ (S Hd : List Int) (R0 : Rs) (ns : List Node) (f : List Int), as = [.t (dSh S Hd R0 ns), .t (dC f)] ∧ ShOk ns ∧ Bd S ns ∧ S.length ≤ 900 ∧ f.length ≤ 800 ∧ d = .int (numberW S ns f)
/-! ### small -/
theorem wt_sm (ls : List Int) (l : Int) : Sm64 (wt ls l) := by unfold wt; split <;> exact ⟨by decide, by decide⟩
theorem wt2_sm (ls : List Int) (v : Int) : Sm64 (wt ls v + wt ls (-v)) := by unfold wt; split <;> split <;> exact ⟨by decide, by decide⟩
theorem shownOf_len {S : List Int} {R : Rs} (h : (varsOf R).length < 64) : (shownOf S R).length ≤ 900 := by
  unfold shownOf
  have := List.length_filter_le (fun v => S.contains v) (varsOf R)
  omega
theorem lack_len {own : List Cl} {i c : Nat} {l : Int} (h : ∀ x ∈ own, x.length ≤ 900) : (lack own i c l).length ≤ 900 := by
  unfold lack
  refine Nat.le_trans (List.length_filter_le _ _) ?_
  rw [List.getD_eq_getElem?_getD]
  cases q : own[i]? with
  | none => exact Nat.zero_le _
  | some x => exact h x (List.mem_of_getElem? q)
theorem own_ok {S : List Int} {ns : List Node} (h : ShOk ns) : ∀ x ∈ ownOf S ns, x.length ≤ 900 := by
  intro x hx
  obtain ⟨y, hy, rfl⟩ := List.mem_map.mp hx
  exact shownOf_len (h.fl y hy).2
theorem told_len (S : List Int) (r : Rule) : (told S r).length = r.kids.length := by
  cases r <;> simp [told, Rule.kids]
  split <;> rfl
theorem get_dC {xs : List Cl} {i : Nat} (h : i < xs.length) : atI (xs.map dC) (i : Int) = some (dC (xs.getD i [])) := by
  refine atI_nat ?_
  rw [List.getElem?_map, List.getElem?_eq_getElem h, List.getD_eq_getElem?_getD, List.getElem?_eq_getElem h]
  rfl
theorem get_int {xs : List Int} {i : Nat} (h : i < xs.length) : atI (xs.map PyData.int) (i : Int) = some (.int (xs.getD i 0)) := by
  refine atI_nat ?_
  rw [List.getElem?_map, List.getElem?_eq_getElem h, List.getD_eq_getElem?_getD, List.getElem?_eq_getElem h]
  rfl
theorem get_fr {xs : List Int} {i : Nat} (h : i < xs.length) : atI (xs.map fr) (i : Int) = some (fr (xs.getD i 0)) := by
  refine atI_nat ?_
  rw [List.getElem?_map, List.getElem?_eq_getElem h, List.getD_eq_getElem?_getD, List.getElem?_eq_getElem h]
  rfl
theorem get_dN {xs : List Nat} {i : Nat} (h : i < xs.length) : atI (xs.map dN) (i : Int) = some (dN (xs.getD i 0)) := by
  refine atI_nat ?_
  rw [List.getElem?_map, List.getElem?_eq_getElem h, List.getD_eq_getElem?_getD, List.getElem?_eq_getElem h]
  rfl
theorem getD_mem {α : Type} {xs : List α} {i : Nat} {d : α} (h : i < xs.length) : xs.getD i d ∈ xs := by
  rw [List.getD_eq_getElem?_getD, List.getElem?_eq_getElem h]
  exact List.getElem_mem h
theorem node_at {ns : List Node} {i : Nat} (h : i < ns.length) : atI (ns.map encN) (i : Int) = some (encN ns[i]) := atI_nat (by rw [List.getElem?_map, List.getElem?_eq_getElem h]; rfl)
theorem rule_at {ns : List Node} {i : Nat} (h : i < ns.length) : ruleAt ns i = ns[i].2 := by unfold ruleAt; rw [List.getElem?_eq_getElem h]
theorem vals_len (ls S : List Int) (ns : List Node) : ∀ m, (vals ls S ns m).length = m
  | 0 => rfl
  | m + 1 => by unfold vals; rw [List.length_append, vals_len ls S ns m]; rfl
theorem vals_mono (ls S : List Int) (ns : List Node) : ∀ (k m : Nat), ∀ x ∈ vals ls S ns m, x ∈ vals ls S ns (m + k)
  | 0, _, _, h => h
  | k + 1, m, x, h => by
    show x ∈ vals ls S ns (m + k) ++ _
    exact List.mem_append_left _ (vals_mono ls S ns k m x h)
theorem kid_lt {ns : List Node} (h : ShOk ns) {i j : Nat} (hi : i < ns.length) (hj : j < (ruleAt ns i).kids.length) : (ruleAt ns i).kids.getD j 0 < i :=
  h.kid i ns[i] (List.getElem?_eq_getElem hi) _ (by rw [← rule_at hi]; exact getD_mem hj)
theorem kids_len {r : Rule} (h : r.ok) : r.kids.length ≤ 900 := by
  cases r <;> first | exact h | (simp [Rule.kids])
section
variable {P : Program} {w : World} {K : PySem.W.Frag} {mg : Str → Option Value} {base : Heap}
theorem shp_open : Shp 1 (.str "open") := ⟨by rw [PyData.canLay0]; decide +kernel, by rw [PyData.depth]; omega⟩
theorem et_ONE (T : Tx K mg base) {σ : L2.St} {H : Hp} : ET K (tC (.ref (He.ga K "ONE"))) σ H (fr 1) := et_gt (T.v_ONE) fun H' => .cons (.int 1) (.cons (.int 1) .nil)
theorem et_ZERO (T : Tx K mg base) {σ : L2.St} {H : Hp} : ET K (tC (.ref (He.ga K "ZERO"))) σ H (fr 0) := et_gt (T.v_ZERO) fun H' => .cons (.int 0) (.cons (.int 1) .nil)
abbrev Nfree_weight : List Str := ["weights", "variables", "v"]
theorem sc_free_weight : FnScope Nfree_weight ["weights", "variables"] (defScope sQfree_weight) := ⟨rfl, rfl, rfl, by decide +kernel, rfl, by decide +kernel, by decide +kernel⟩
theorem cal_free_weight (T : Tx K mg base) : Cal P w K mg base 4 "free_weight" (spT K Pfree_weight) [] := by
  have sc := sc_free_weight
  refine cal_t T 22 22 rfl rfl sc (fun _ _ _ _ _ _ us hl => match us, hl with | [_, _], _ => rfl) (fun as d h => ?_) (by decide) fun cdv A outer s H Q E hr => ?_
  · (first | (obtain ⟨_, rfl, _⟩ := h; rfl) | (obtain ⟨_, _, rfl, _⟩ := h; rfl) | (obtain ⟨_, _, _, rfl, _⟩ := h; rfl) | (obtain ⟨_, _, _, _, rfl, _⟩ := h; rfl) | (obtain ⟨_, _, _, _, _, rfl, _⟩ := h; rfl) | (obtain ⟨_, _, _, _, _, _, rfl, _⟩ := h; rfl) | (obtain ⟨_, _, _, _, _, _, _, rfl, _⟩ := h; rfl) | (obtain ⟨_, _, _, _, _, _, _, _, rfl, _⟩ := h; rfl))
  refine ⟨_, (pss_one (ps_ret (pe_c (cal_product T) hr (by decide) rfl (pa_cons (pe_lc (own := [("v", 2)]) rfl sc.nd (pi_list (pv 1)) (blkOk_by (own := [("v", 2)]) (N := Nfree_weight) (sc := defScope sQfree_weight) (by decide +kernel)) (fun _ _ _ _ _ => (pg_name (i := 2) sc.nd rfl (Or.inl rfl))) (fun _ _ _ _ _ => pts_nil) (fun _ _ _ _ _ => (pe_c (cal_plus T) hr (by decide) rfl (pa_cons (pe_c (cal_weight_of T) hr (by decide) rfl (pa_cons (pv 0) (pa_cons (pv 2) pa_nil))) (pa_cons (pe_c (cal_weight_of T) hr (by decide) rfl (pa_cons (pv 0) (pa_cons (pe_un un_neg (pv 2)) pa_nil))) pa_nil))))) pa_nil)))), fun as d h k σ R => ?_⟩
  obtain ⟨ls, vs, rfl, hl, rfl⟩ := h
  refine s_retT R (et_call (ea_cons (EL.e1 (EL.eq (el_mapL (xs := vs) (enc := .int) (f := fun v => fr (wt ls v + wt ls (-v))) R (e1_r R rfl) (Nat.le_trans hl (by decide)) fun m v hv σ1 H1 R1 e1 => et_call (ea_t (et_call (ea_t (et_v R1 rfl) (ea_t (et_v R1 rfl) ea_nil)) ⟨ls, v, rfl, rfl⟩) (ea_t (et_call (ea_t (et_v R1 rfl) (ea_t (et_neg (et_v R1 rfl)) ea_nil)) ⟨ls, -v, rfl, rfl⟩) ea_nil)) ⟨_, _, rfl, rfl⟩) (show _ = (vs.map fun v => wt ls v + wt ls (-v)).map fr by rw [List.map_map]; rfl))) ea_nil) ⟨_, rfl, fun n hn => ?_, rfl⟩) k
  obtain ⟨v, _, rfl⟩ := List.mem_map.mp hn
  exact wt2_sm ls v
abbrev Nown_variables : List Str := ["sheet", "node"]
theorem sc_own_variables : FnScope Nown_variables ["sheet"] (defScope sQown_variables) := ⟨rfl, rfl, rfl, by decide +kernel, rfl, by decide +kernel, by decide +kernel⟩
theorem cal_own_variables (T : Tx K mg base) : Cal P w K mg base 3 "own_variables" (spL K Pown_variables) [] := by
  have sc := sc_own_variables
  refine cal_l T 23 23 rfl rfl sc (fun _ _ _ _ _ _ us hl => match us, hl with | [_], _ => rfl) (fun as d h => ?_) (by decide) fun cdv A outer s H Q E hr => ?_
  · (first | (obtain ⟨_, rfl, _⟩ := h; rfl) | (obtain ⟨_, _, rfl, _⟩ := h; rfl) | (obtain ⟨_, _, _, rfl, _⟩ := h; rfl) | (obtain ⟨_, _, _, _, rfl, _⟩ := h; rfl) | (obtain ⟨_, _, _, _, _, rfl, _⟩ := h; rfl) | (obtain ⟨_, _, _, _, _, _, rfl, _⟩ := h; rfl) | (obtain ⟨_, _, _, _, _, _, _, rfl, _⟩ := h; rfl) | (obtain ⟨_, _, _, _, _, _, _, _, rfl, _⟩ := h; rfl))
  refine ⟨_, (pss_one (ps_ret (pe_lc (own := [("node", 1)]) rfl sc.nd (pi_tup (pe_ix ix_tup (pv 0) pe_int (fun _ _ => rfl))) (blkOk_by (own := [("node", 1)]) (N := Nown_variables) (sc := defScope sQown_variables) (by decide +kernel)) (fun _ _ _ _ _ => (pg_name (i := 1) sc.nd rfl (Or.inl rfl))) (fun _ _ _ _ _ => pts_nil) (fun _ _ _ _ _ => (pe_c (cal_shown_of T) hr (by decide) rfl (pa_cons (pe_ix (k_ix_tup K rfl) (pv 0) pe_int (fun _ _ => rfl)) (pa_cons (pe_ix (k_ix_tup K rfl) (pv 1) pe_int (fun _ _ => rfl)) pa_nil))))))), fun as d h k σ R => ?_⟩
  obtain ⟨S, Hd, R0, ns, rfl, hS, rfl⟩ := h
  have hl := hS.len
  refine s_retL R (EL.eq (el_mapT (xs := ns) (enc := encN) (f := fun x => dC (shownOf S x.1)) R (et_ixT (et_v R rfl) et_int (d := .tuple (ns.map encN)) rfl) (by omega) fun m x hx σ1 H1 R1 e1 => et_call (ea_t (et_ixT (et_v R1 rfl) et_int (d := dF S Hd R0) rfl) (ea_t (et_ixT (et_v R1 rfl) et_int (d := dR x.1) rfl) ea_nil)) ⟨S, Hd, R0, x.1, rfl, (hS.fl x (List.mem_of_getElem? hx)).1, (hS.fl x (List.mem_of_getElem? hx)).2, rfl⟩) (by unfold ownOf; rw [List.map_map]; rfl)) k
abbrev Nliterals_told : List Str := ["sheet", "rule", "child"]
theorem sc_literals_told : FnScope Nliterals_told ["sheet", "rule"] (defScope sQliterals_told) := ⟨rfl, rfl, rfl, by decide +kernel, rfl, by decide +kernel, by decide +kernel⟩
theorem cal_literals_told (T : Tx K mg base) : Cal P w K mg base 2 "literals_told" (spL K Pliterals_told) [] := by
  have sc := sc_literals_told
  refine cal_l T 24 24 rfl rfl sc (fun _ _ _ _ _ _ us hl => match us, hl with | [_, _], _ => rfl) (fun as d h => ?_) (by decide) fun cdv A outer s H Q E hr => ?_
  · (first | (obtain ⟨_, rfl, _⟩ := h; rfl) | (obtain ⟨_, _, rfl, _⟩ := h; rfl) | (obtain ⟨_, _, _, rfl, _⟩ := h; rfl) | (obtain ⟨_, _, _, _, rfl, _⟩ := h; rfl) | (obtain ⟨_, _, _, _, _, rfl, _⟩ := h; rfl) | (obtain ⟨_, _, _, _, _, _, rfl, _⟩ := h; rfl) | (obtain ⟨_, _, _, _, _, _, _, rfl, _⟩ := h; rfl) | (obtain ⟨_, _, _, _, _, _, _, _, rfl, _⟩ := h; rfl))
  refine ⟨_, (pss_cons (ps_if (pt_cmpR (op_eqD (u64 hr)) (pe_ix ix_tup (pv 1) pe_int (fun _ _ => rfl)) pe_str (nomark _))
      (pss_one (ps_ret (pe_lst (pa_cons (pe_ix ix_tup (pv 1) pe_int (fun _ _ => rfl)) (pa_cons (pe_un un_neg (pe_ix ix_tup (pv 1) pe_int (fun _ _ => rfl))) pa_nil)))))
      pss_nil)
    (pss_cons (ps_if (PW.pt (pw_and (pt_cmpR (op_eqD (u64 hr)) (pe_ix ix_tup (pv 1) pe_int (fun _ _ => rfl)) pe_str (nomark _)) (pw_and1 (pt_cmpR op_in_seq (pe_callB call_abs (by rfl) T.f_abs (by decide +kernel) (pa_cons (pe_ix ix_tup (pv 1) pe_int (fun _ _ => rfl)) pa_nil)) (pe_ix ix_tup (pe_ix ix_tup (pv 0) pe_int (fun _ _ => rfl)) pe_int (fun _ _ => rfl)) (by rfl)))))
      (pss_one (ps_ret (pe_lst (pa_cons (pe_ix ix_tup (pv 1) pe_int (fun _ _ => rfl)) pa_nil))))
      pss_nil)
    (pss_one (ps_ret (pe_lc (own := [("child", 2)]) rfl sc.nd (pi_tup (pe_c (cal_children_of T) hr (by decide) rfl (pa_cons (pv 1) pa_nil))) (blkOk_by (own := [("child", 2)]) (N := Nliterals_told) (sc := defScope sQliterals_told) (by decide +kernel)) (fun _ _ _ _ _ => (pg_name (i := 2) sc.nd rfl (Or.inl rfl))) (fun _ _ _ _ _ => pts_nil) (fun _ _ _ _ _ => pe_int)))))), fun as d h k σ R => ?_⟩
  obtain ⟨S, Hd, R0, ns, r, rfl, hr, rfl⟩ := h
  refine sq (s_if (eb_tagEq (r := r) .choice (et_v R rfl)) (fun hb H1 e1 => ?_) fun hb1 H1 e1 => ?_)
  · have R1 := R.same e1
    cases r with
    | choice v a b => exact s_retL R1 (el_lst (ds := [_, _]) (ea_t (et_ixT (et_v R1 rfl) et_int (d := .int v) rfl) (ea_t (et_neg (et_ixT (et_v R1 rfl) et_int (d := .int v) rfl)) ea_nil))) k
    | _ => cases hb
  have R1 := R.same e1
  dsimp only
  cases hu : decide (r.tg = .unit) with
  | true =>
    cases r with
    | unit l c =>
      refine sq (s_if (b := S.contains (iabs l)) (EB.eq (eb_and (eb_tagEq (r := .unit l c) .unit (et_v R1 rfl)) fun _ => eb_t (et_inT (et_abs (et_ixT (et_v R1 rfl) et_int (d := .int l) rfl)) (et_ixT (et_ixT (et_v R1 rfl) et_int (d := dF S Hd R0) rfl) et_int (d := dC S) rfl))) rfl) (fun hb H2 e2 => ?_) fun hb H2 e2 => ?_)
      · have R2 := R1.same e2
        have e : told S (.unit l c) = [l] := by show (if S.contains (iabs l) = true then [l] else [0]) = _; rw [if_pos hb]
        rw [e] at k
        exact s_retL R2 (el_lst (ds := [_]) (ea_t (et_ixT (et_v R2 rfl) et_int (d := .int l) rfl) ea_nil)) k
      · have R2 := R1.same e2
        have e : told S (.unit l c) = [0] := by show (if S.contains (iabs l) = true then [l] else [0]) = _; rw [hb]; rfl
        rw [e] at k
        exact s_retL R2 (EL.eq (el_mapT (xs := [c]) (enc := dN) (f := fun _ => .int 0) R2 (et_call (ea_t (et_v R2 rfl) ea_nil) ⟨_, rfl, rfl⟩) (by simp) fun m x hx σ3 H3 R3 e3 => et_int) rfl) k
    | _ => cases hu
  | false =>
    have hun : r.tg ≠ .unit := by simpa using hu
    refine sq (s_if (b := false) (eb_and (b' := false) (EB.eq (eb_tagEq (r := r) .unit (et_v R1 rfl)) hu) fun hb => by cases hb) (fun hb => by cases hb) fun _ H2 e2 => ?_)
    have R2 := R1.same e2
    have hch : r.tg ≠ .choice := by simpa using hb1
    have e : told S r = r.kids.map fun _ => 0 := by
      cases r <;> first | rfl | exact absurd rfl hun | exact absurd rfl hch
    rw [e] at k
    exact s_retL R2 (EL.eq (el_mapT (xs := r.kids) (enc := dN) (f := fun _ => .int 0) R2 (et_call (ea_t (et_v R2 rfl) ea_nil) ⟨_, rfl, rfl⟩) (Nat.le_trans (kids_len hr) (by decide)) fun m x hx σ3 H3 R3 e3 => et_int) (by rw [List.map_map]; rfl)) k
abbrev Nlacking : List Str := ["own", "number", "child", "literal", "v"]
theorem sc_lacking : FnScope Nlacking ["own", "number", "child", "literal"] (defScope sQlacking) := ⟨rfl, rfl, rfl, by decide +kernel, rfl, by decide +kernel, by decide +kernel⟩
theorem cal_lacking (T : Tx K mg base) : Cal P w K mg base 1 "lacking" (spL K Placking) [] := by
  have sc := sc_lacking
  refine cal_l T 25 25 rfl rfl sc (fun _ _ _ _ _ _ us hl => match us, hl with | [_, _, _, _], _ => rfl) (fun as d h => ?_) (by decide) fun cdv A outer s H Q E hr => ?_
  · (first | (obtain ⟨_, rfl, _⟩ := h; rfl) | (obtain ⟨_, _, rfl, _⟩ := h; rfl) | (obtain ⟨_, _, _, rfl, _⟩ := h; rfl) | (obtain ⟨_, _, _, _, rfl, _⟩ := h; rfl) | (obtain ⟨_, _, _, _, _, rfl, _⟩ := h; rfl) | (obtain ⟨_, _, _, _, _, _, rfl, _⟩ := h; rfl) | (obtain ⟨_, _, _, _, _, _, _, rfl, _⟩ := h; rfl) | (obtain ⟨_, _, _, _, _, _, _, _, rfl, _⟩ := h; rfl))
  refine ⟨_, (pss_one (ps_ret (pe_lc (own := [("v", 4)]) rfl sc.nd (pi_tup (pe_ix ix_list (pv 0) (pv 1) (fun _ _ => rfl))) (blkOk_by (own := [("v", 4)]) (N := Nlacking) (sc := defScope sQlacking) (by decide +kernel)) (fun _ _ _ _ _ => (pg_name (i := 4) sc.nd rfl (Or.inl rfl))) (fun _ _ _ _ _ => pts_one (PW.pt (pw_and (pt_cmpR (k_notIn K rfl) (pv 4) (pe_ix (k_ix_list K rfl) (pv 0) (pv 2) (fun _ _ => rfl)) (by rfl)) (pw_and1 (pt_cmpR op_ne (pv 4) (pe_callB call_abs (by rfl) T.f_abs (by decide +kernel) (pa_cons (pv 3) pa_nil)) (nomark _)))))) (fun _ _ _ _ _ => (pv 4))))), fun as d h k σ R => ?_⟩
  obtain ⟨own, i, c, l, rfl, hi, hc, ho, rfl⟩ := h
  refine s_retL R (EL.eq (el_compT (xs := own.getD i []) (enc := .int) (p := fun v => (!(own.getD c []).contains v) && !decide (v = iabs l)) (f := .int) R (et_ixL (e1_r R rfl) (et_v R rfl) (get_dC hi)) (Nat.le_trans (ho _ (getD_mem hi)) (by decide)) fun m v hv σ1 H1 R1 e1 => ⟨eb_and (eb_t (et_ninT (et_v R1 rfl) (et_ixL (e1_r R1 rfl) (et_v R1 rfl) (get_dC hc)))) fun _ => eb_t (et_neI (et_v R1 rfl) (et_abs (et_v R1 rfl))), fun _ => et_v R1 rfl⟩) rfl) k
theorem own_len (S : List Int) (ns : List Node) : (ownOf S ns).length = ns.length := by unfold ownOf; rw [List.length_map]
abbrev Nway_weight : List Str := ["sheet", "weights", "own", "number", "at", "rule", "child", "literal", "found"]
theorem sc_way_weight : FnScope Nway_weight ["sheet", "weights", "own", "number", "at"] (defScope sQway_weight) := ⟨rfl, rfl, rfl, by decide +kernel, rfl, by decide +kernel, by decide +kernel⟩
theorem cal_way_weight (T : Tx K mg base) : Cal P w K mg base 5 "way_weight" (spT K Pway_weight) [] := by
  have sc := sc_way_weight
  refine cal_t T 26 26 rfl rfl sc (fun _ _ _ _ _ _ us hl => match us, hl with | [_, _, _, _, _], _ => rfl) (fun as d h => ?_) (by decide) fun cdv A outer s H Q E hr => ?_
  · (first | (obtain ⟨_, rfl, _⟩ := h; rfl) | (obtain ⟨_, _, rfl, _⟩ := h; rfl) | (obtain ⟨_, _, _, rfl, _⟩ := h; rfl) | (obtain ⟨_, _, _, _, rfl, _⟩ := h; rfl) | (obtain ⟨_, _, _, _, _, rfl, _⟩ := h; rfl) | (obtain ⟨_, _, _, _, _, _, rfl, _⟩ := h; rfl) | (obtain ⟨_, _, _, _, _, _, _, rfl, _⟩ := h; rfl) | (obtain ⟨_, _, _, _, _, _, _, _, rfl, _⟩ := h; rfl))
  refine ⟨_, (pss_cons (ps_set (i := 5) sc.nd rfl (by first | exact Or.inl rfl | exact Or.inr rfl) (pe_ix ix_tup (pe_ix ix_tup (pe_ix ix_tup (pv 0) pe_int (fun _ _ => rfl)) (pv 3) (fun _ _ => rfl)) pe_int (fun _ _ => rfl)))
    (pss_cons (ps_set (i := 6) sc.nd rfl (by first | exact Or.inl rfl | exact Or.inr rfl) (pe_ix ix_tup (pe_c (cal_children_of T) hr (by decide) rfl (pa_cons (pv 5) pa_nil)) (pv 4) (fun _ _ => rfl)))
    (pss_cons (ps_if (pt_cmpR (op_eqD (u64 hr)) (pe_ix ix_tup (pv 5) pe_int (fun _ _ => rfl)) pe_str (nomark _))
      (pss_one (ps_ret (pe_glob (v := .ref (He.ga K "ONE")) rfl T.g_ONE rfl)))
      pss_nil)
    (pss_cons (ps_set (i := 7) sc.nd rfl (by first | exact Or.inl rfl | exact Or.inr rfl) (pe_ix ix_list (pe_c (cal_literals_told T) hr (by decide) rfl (pa_cons (pv 0) (pa_cons (pv 5) pa_nil))) (pv 4) (fun _ _ => rfl)))
    (pss_cons (ps_set (i := 8) sc.nd rfl (by first | exact Or.inl rfl | exact Or.inr rfl) (pe_c (cal_free_weight T) hr (by decide) rfl (pa_cons (pv 1) (pa_cons (pe_c (cal_lacking T) hr (by decide) rfl (pa_cons (pv 2) (pa_cons (pv 3) (pa_cons (pv 6) (pa_cons (pv 7) pa_nil))))) pa_nil))))
    (pss_cons (ps_if (pt_cmpR op_ne (pv 7) pe_int (nomark _))
      (pss_one (ps_set (i := 8) sc.nd rfl (by first | exact Or.inl rfl | exact Or.inr rfl) (pe_c (cal_times T) hr (by decide) rfl (pa_cons (pv 8) (pa_cons (pe_c (cal_weight_of T) hr (by decide) rfl (pa_cons (pv 1) (pa_cons (pv 7) pa_nil))) pa_nil)))))
      pss_nil)
    (pss_one (ps_ret (pv 8))))))))), fun as d h k σ R => ?_⟩
  obtain ⟨S, Hd, R0, ns, ls, i, j, rfl, hS, hi, hj, rfl⟩ := h
  have hok := hS.ok ns[i] (List.getElem_mem hi)
  have hkl := kid_lt hS hi hj
  rw [rule_at hi] at hj hkl k
  generalize hr0 : ns[i].2 = r at hj hkl k hok
  have hen : encN ns[i] = .tuple [dR ns[i].1, encR r] := by rw [← hr0]; rfl
  refine sq (s_set R (et_ixT (et_ixT (et_ixT (et_v R rfl) et_int (d := .tuple (ns.map encN)) rfl) (et_v R rfl) (d := .tuple [dR ns[i].1, encR r]) (by rw [node_at hi, hen])) et_int (d := encR r) rfl) fun σ1 H1 _ R1 => ?_)
  refine sq (s_set R1 (et_ixT (et_call (ea_t (et_v R1 rfl) ea_nil) ⟨r, rfl, rfl⟩) (et_v R1 rfl) (get_dN hj)) fun σ2 H2 _ R2 => ?_)
  refine sq (s_if (eb_tagEq (r := r) .parts (et_v R2 rfl)) (fun hb H3 e3 => ?_) fun hb H3 e3 => ?_)
  · have e : wayW ls S (ownOf S ns) i r j = 1 := by unfold wayW; rw [if_pos (by simpa using hb)]
    rw [e] at k
    exact s_retT (R2.same e3) (et_ONE T) k
  have R3 := R2.same e3
  have e : wayW ls S (ownOf S ns) i r j = freeW ls (lack (ownOf S ns) i (r.kids.getD j 0) ((told S r).getD j 0)) * if (told S r).getD j 0 = 0 then 1 else wt ls ((told S r).getD j 0) := by unfold wayW; rw [if_neg (by simpa using hb)]
  rw [e] at k
  dsimp only
  have hol := own_len S ns
  refine sq (s_set R3 (et_ixL (EL.e1 (el_call (ea_t (et_v R3 rfl) (ea_t (et_v R3 rfl) ea_nil)) ⟨S, Hd, R0, ns, r, rfl, hok, rfl⟩)) (et_v R3 rfl) (get_int (xs := told S r) (by rw [told_len]; exact hj))) fun σ4 H4 _ R4 => ?_)
  refine sq (s_set R4 (et_call (ea_t (et_v R4 rfl) (ea_cons (EL.e1 (el_call (ea_cons (e1_r R4 rfl) (ea_t (et_v R4 rfl) (ea_t (et_v R4 rfl) (ea_t (et_v R4 rfl) ea_nil)))) ⟨ownOf S ns, i, r.kids.getD j 0, (told S r).getD j 0, rfl, by omega, by omega, own_ok hS, rfl⟩)) ea_nil)) ⟨ls, lack (ownOf S ns) i (r.kids.getD j 0) ((told S r).getD j 0), rfl, lack_len (own_ok hS), rfl⟩) fun σ5 H5 _ R5 => ?_)
  refine sq (s_ifM (fun σ6 H6 => Rel K H H H6 σ6 [.t (dSh S Hd R0 ns), .t (dW ls), .r ((ownOf S ns).map dC), .t (.int i), .t (.int j), .t (encR r), .t (dN (r.kids.getD j 0)), .t (.int ((told S r).getD j 0)), .t (fr (freeW ls (lack (ownOf S ns) i (r.kids.getD j 0) ((told S r).getD j 0)) * if (told S r).getD j 0 = 0 then 1 else wt ls ((told S r).getD j 0)))]) (eb_t (et_neI (et_v R5 rfl) et_int)) (fun σ6 H6 R6 => s_retT R6 (et_v R6 rfl) k) (fun hb H6 e6 k6 => ?_) fun hb H6 e6 k6 => ?_)
  · have R6 := R5.same e6
    have hne : ¬ (told S r).getD j 0 = 0 := by simpa using hb
    refine s_set R6 (et_call (ea_t (et_v R6 rfl) (ea_t (et_call (ea_t (et_v R6 rfl) (ea_t (et_v R6 rfl) ea_nil)) ⟨ls, _, rfl, rfl⟩) ea_nil)) ⟨_, _, rfl, wt_sm _ _, rfl⟩) fun σ7 H7 _ R7 => k6 _ _ (R7.eq ?_)
    rw [if_neg hne]
    rfl
  · have hz : (told S r).getD j 0 = 0 := by simpa using hb
    refine k6 _ _ ((R5.same e6).eq ?_)
    rw [if_pos hz, Int.mul_one]
    rfl
abbrev Nnode_sum : List Str := ["sheet", "weights", "own", "sums", "number", "is_high", "rule", "children", "found", "at", "child"]
theorem sc_node_sum : FnScope Nnode_sum ["sheet", "weights", "own", "sums", "number", "is_high"] (defScope sQnode_sum) := ⟨rfl, rfl, rfl, by decide +kernel, rfl, by decide +kernel, by decide +kernel⟩
theorem cal_node_sum (T : Tx K mg base) : Cal P w K mg base 6 "node_sum" (spT K Pnode_sum) [] := by
  have sc := sc_node_sum
  refine cal_t T 27 27 rfl rfl sc (fun _ _ _ _ _ _ us hl => match us, hl with | [_, _, _, _, _, _], _ => rfl) (fun as d h => ?_) (by decide) fun cdv A outer s H Q E hr => ?_
  · (first | (obtain ⟨_, rfl, _⟩ := h; rfl) | (obtain ⟨_, _, rfl, _⟩ := h; rfl) | (obtain ⟨_, _, _, rfl, _⟩ := h; rfl) | (obtain ⟨_, _, _, _, rfl, _⟩ := h; rfl) | (obtain ⟨_, _, _, _, _, rfl, _⟩ := h; rfl) | (obtain ⟨_, _, _, _, _, _, rfl, _⟩ := h; rfl) | (obtain ⟨_, _, _, _, _, _, _, rfl, _⟩ := h; rfl) | (obtain ⟨_, _, _, _, _, _, _, _, rfl, _⟩ := h; rfl))
  refine ⟨_, (pss_cons (ps_set (i := 6) sc.nd rfl (by first | exact Or.inl rfl | exact Or.inr rfl) (pe_ix ix_tup (pe_ix ix_tup (pe_ix ix_tup (pv 0) pe_int (fun _ _ => rfl)) (pv 4) (fun _ _ => rfl)) pe_int (fun _ _ => rfl)))
    (pss_cons (ps_if (pt_cmpR (op_inT (u65 hr)) (pe_ix ix_tup (pv 6) pe_int (fun _ _ => rfl)) (pe_tup (pa_cons pe_str (pa_cons pe_str pa_nil))) (by rfl))
      (pss_one (ps_ret (pe_glob (v := .ref (He.ga K "ONE")) rfl T.g_ONE rfl)))
      pss_nil)
    (pss_cons (ps_if (PW.pt (pw_and (pt_cmpR (op_eqD (u64 hr)) (pe_ix ix_tup (pv 6) pe_int (fun _ _ => rfl)) pe_str (nomark _)) (pw_and1 (pt_val (pv 5)))))
      (pss_one (ps_ret (pe_c (cal_free_weight T) hr (by decide) rfl (pa_cons (pv 1) (pa_cons (pe_ix ix_list (pv 2) (pv 4) (fun _ _ => rfl)) pa_nil)))))
      pss_nil)
    (pss_cons (ps_set (i := 7) sc.nd rfl (by first | exact Or.inl rfl | exact Or.inr rfl) (pe_c (cal_children_of T) hr (by decide) rfl (pa_cons (pv 6) pa_nil)))
    (pss_cons (ps_if (pt_cmpR (op_eqD (u64 hr)) (pe_ix ix_tup (pv 6) pe_int (fun _ _ => rfl)) pe_str (nomark _))
      (pss_one (ps_ret (pe_c (cal_product T) hr (by decide) rfl (pa_cons (pe_lc (own := [("child", 10)]) rfl sc.nd (pi_tup (pv 7)) (blkOk_by (own := [("child", 10)]) (N := Nnode_sum) (sc := defScope sQnode_sum) (by decide +kernel)) (fun _ _ _ _ _ => (pg_name (i := 10) sc.nd rfl (Or.inl rfl))) (fun _ _ _ _ _ => pts_nil) (fun _ _ _ _ _ => (pe_ix (k_ix_list K rfl) (pv 3) (pv 10) (fun _ _ => rfl)))) pa_nil))))
      pss_nil)
    (pss_cons (ps_set (i := 8) sc.nd rfl (by first | exact Or.inl rfl | exact Or.inr rfl) (pe_glob (v := .ref (He.ga K "ZERO")) rfl T.g_ZERO rfl))
    (pss_cons (ps_for PassesOwn.never rfl (pi_range1 rfl T.f_range (pa_cons (pe_callB call_len_seq (by rfl) T.f_len (by decide +kernel) (pa_cons (pv 7) pa_nil)) pa_nil)) (pg_name (i := 9) sc.nd rfl (by first | exact Or.inl rfl | exact Or.inr rfl))
      (pss_one (ps_set (i := 8) sc.nd rfl (by first | exact Or.inl rfl | exact Or.inr rfl) (pe_c (cal_plus T) hr (by decide) rfl (pa_cons (pv 8) (pa_cons (pe_c (cal_times T) hr (by decide) rfl (pa_cons (pe_c (cal_way_weight T) hr (by decide) rfl (pa_cons (pv 0) (pa_cons (pv 1) (pa_cons (pv 2) (pa_cons (pv 4) (pa_cons (pv 9) pa_nil)))))) (pa_cons (pe_ix ix_list (pv 3) (pe_ix ix_tup (pv 7) (pv 9) (fun _ _ => rfl)) (fun _ _ => rfl)) pa_nil))) pa_nil))))))
    (pss_one (ps_ret (pv 8)))))))))), fun as d h k σ R => ?_⟩
  obtain ⟨S, Hd, R0, ns, ls, sums, i, b, rfl, hS, hi, hsl, hsm, rfl⟩ := h
  have hok := hS.ok ns[i] (List.getElem_mem hi)
  have hkid : ∀ j, j < (ruleAt ns i).kids.length → (ruleAt ns i).kids.getD j 0 < i := fun j hj => kid_lt hS hi hj
  have hway : ∀ j, j < (ruleAt ns i).kids.length → ∀ d, d = fr (wayW ls S (ownOf S ns) i (ruleAt ns i) j) → Pway_weight [.t (dSh S Hd R0 ns), .t (dW ls), .l ((ownOf S ns).map dC), .t (.int i), .t (.int j)] d := fun j hj d e => ⟨S, Hd, R0, ns, ls, i, j, rfl, hS, hi, hj, e⟩
  have hr0 := rule_at hi
  generalize ruleAt ns i = r at hkid hway hr0 k
  rw [← hr0] at hok
  have hen : encN ns[i] = .tuple [dR ns[i].1, encR r] := by rw [hr0]; rfl
  refine sq (s_set R (et_ixT (et_ixT (et_ixT (et_v R rfl) et_int (d := .tuple (ns.map encN)) rfl) (et_v R rfl) (d := .tuple [dR ns[i].1, encR r]) (by rw [node_at hi, hen])) et_int (d := encR r) rfl) fun σ1 H1 _ R1 => ?_)
  refine sq (s_if (eb_tagIn (r := r) .yes .some_ (et_v R1 rfl)) (fun hb H2 e2 => ?_) fun hb H2 e2 => ?_)
  · have e : nodeSum ls S (ownOf S ns) sums i r = 1 := by
      unfold nodeSum
      rw [if_pos]
      have : Tg.yes = r.tg ∨ Tg.some_ = r.tg := by simpa using hb
      exact this.elim (fun h => .inl h.symm) fun h => .inr h.symm
    rw [e] at k
    exact s_retT (R1.same e2) (et_ONE T) k
  have hn1 : ¬ (r.tg = .yes ∨ r.tg = .some_) := by
    intro h
    have : (decide (Tg.yes = r.tg) || decide (Tg.some_ = r.tg)) = true := by
      rcases h with h | h <;> simp [h]
    rw [hb] at this
    cases this
  have R2 := R1.same e2
  dsimp only
  refine sq (s_if (b := false) (eb_and (b' := b) (b := false) (eb_t (ET.eq (et_eqD (et_tag (et_v R2 rfl)) et_str (shp_tag r.tg (n := 1)).shaped shp_open.shaped) (by rw [eqv_str, tg_open]))) fun hb => by cases hb) (fun hb => by cases hb) fun _ H3 e3 => ?_)
  have R3 := R2.same e3
  dsimp only
  refine sq (s_set R3 (et_call (ea_t (et_v R3 rfl) ea_nil) ⟨r, rfl, rfl⟩) fun σ4 H4 _ R4 => ?_)
  refine sq (s_if (eb_tagEq (r := r) .parts (et_v R4 rfl)) (fun hb H5 e5 => ?_) fun hb5 H5 e5 => ?_)
  · have e : nodeSum ls S (ownOf S ns) sums i r = prodI (r.kids.map fun c => sums.getD c 0) := by unfold nodeSum; rw [if_neg hn1, if_pos (by simpa using hb)]
    rw [e] at k
    have R5 := R4.same e5
    have hlt : ∀ (m c : Nat), r.kids[m]? = some c → c < sums.length := fun m c hc => by
      have hm := (List.getElem?_eq_some_iff.mp hc).1
      have := hkid m hm
      rw [List.getD_eq_getElem?_getD, hc] at this
      have : c < i := this
      omega
    refine s_retT R5 (et_call (ea_cons (EL.e1 (EL.eq (el_mapT (xs := r.kids) (enc := dN) (f := fun c => fr (sums.getD c 0)) R5 (et_v R5 rfl) (Nat.le_trans (kids_len hok) (by decide)) fun m c hc σ6 H6 R6 e6 => et_ixL (e1_r R6 rfl) (et_v R6 rfl) (get_fr (hlt m c hc))) (show _ = (r.kids.map fun c => sums.getD c 0).map fr by rw [List.map_map]; rfl))) ea_nil) ⟨_, rfl, fun n hn => ?_, rfl⟩) k
    obtain ⟨c, hc, rfl⟩ := List.mem_map.mp hn
    obtain ⟨m, hm⟩ := List.mem_iff_getElem?.mp hc
    exact hsm _ (getD_mem (hlt m c hm))
  have e : nodeSum ls S (ownOf S ns) sums i r = (List.range r.kids.length).foldl (fun acc j => acc + wayW ls S (ownOf S ns) i r j * sums.getD (r.kids.getD j 0) 0) 0 := by unfold nodeSum; rw [if_neg hn1, if_neg (by simpa using hb5)]
  rw [e] at k
  have R5 := R4.same e5
  try unfold tNext
  try dsimp only
  refine sq (s_set R5 (et_ZERO T) fun σ6 H6 _ R6 => ?_)
  have hkl := kids_len hok
  refine sq (s_rng1 (i := 9) (n := (r.kids.length : Int)) R6 (ET.eq (et_lenT (et_v R6 rfl)) (by rw [List.length_map])) (by omega) (by omega) (fun m => [.t (dSh S Hd R0 ns), .t (dW ls), .r ((ownOf S ns).map dC), .r (sums.map fr), .t (.int i), .t (.bool b), .t (encR r), .t (.tuple (r.kids.map dN)), .t (fr ((List.range m).foldl (fun acc j => acc + wayW ls S (ownOf S ns) i r j * sums.getD (r.kids.getD j 0) 0) 0)), .any, .any]) (fun _ _ => True) rfl (fun _ _ => trivial) (fun Hm m σ7 H7 hm R7 _ _ => ?_) fun σ7 H7 R7 _ => ?_)
  · have hm' : m < r.kids.length := by omega
    have hks := hkid m hm'
    refine s_set R7 (et_call (ea_t (et_v R7 rfl) (ea_t (et_call (ea_t (et_call (ea_t (et_v R7 rfl) (ea_t (et_v R7 rfl) (ea_cons (e1_r R7 rfl) (ea_t (et_v R7 rfl) (ea_t (et_v R7 rfl) ea_nil))))) (hway m hm' _ rfl)) (ea_t (et_ixL (e1_r R7 rfl) (et_ixT (et_v R7 rfl) (et_v R7 rfl) (get_dN hm')) (get_fr (xs := sums) (i := r.kids.getD m 0) (by omega))) ea_nil)) ⟨_, _, rfl, hsm _ (getD_mem (by omega)), rfl⟩) ea_nil)) ⟨_, _, rfl, rfl⟩) fun σ8 H8 _ R8 => ⟨(R8.forget 9).eq ?_, trivial⟩
    rw [List.range_succ, List.foldl_append]
    rfl
  · rw [Int.toNat_natCast] at R7
    exact s_retT R7 (et_v R7 rfl) k
abbrev Nall_sums : List Str := ["sheet", "weights", "is_high", "own", "sums", "number"]
theorem sc_all_sums : FnScope Nall_sums ["sheet", "weights", "is_high"] (defScope sQall_sums) := ⟨rfl, rfl, rfl, by decide +kernel, rfl, by decide +kernel, by decide +kernel⟩
theorem cal_all_sums (T : Tx K mg base) : Cal P w K mg base 7 "all_sums" (spL K Pall_sums) [] := by
  have sc := sc_all_sums
  refine cal_l T 28 28 rfl rfl sc (fun _ _ _ _ _ _ us hl => match us, hl with | [_, _, _], _ => rfl) (fun as d h => ?_) (by decide) fun cdv A outer s H Q E hr => ?_
  · (first | (obtain ⟨_, rfl, _⟩ := h; rfl) | (obtain ⟨_, _, rfl, _⟩ := h; rfl) | (obtain ⟨_, _, _, rfl, _⟩ := h; rfl) | (obtain ⟨_, _, _, _, rfl, _⟩ := h; rfl) | (obtain ⟨_, _, _, _, _, rfl, _⟩ := h; rfl) | (obtain ⟨_, _, _, _, _, _, rfl, _⟩ := h; rfl) | (obtain ⟨_, _, _, _, _, _, _, rfl, _⟩ := h; rfl) | (obtain ⟨_, _, _, _, _, _, _, _, rfl, _⟩ := h; rfl))
  refine ⟨_, (pss_cons (ps_set (i := 3) sc.nd rfl (by first | exact Or.inl rfl | exact Or.inr rfl) (pe_c (cal_own_variables T) hr (by decide) rfl (pa_cons (pv 0) pa_nil)))
    (pss_cons (ps_set (i := 4) sc.nd rfl (by first | exact Or.inl rfl | exact Or.inr rfl) (pe_lst pa_nil))
    (pss_cons (ps_for PassesOwn.never rfl (pi_range1 rfl T.f_range (pa_cons (pe_callB call_len_seq (by rfl) T.f_len (by decide +kernel) (pa_cons (pe_ix ix_tup (pv 0) pe_int (fun _ _ => rfl)) pa_nil)) pa_nil)) (pg_name (i := 5) sc.nd rfl (by first | exact Or.inl rfl | exact Or.inr rfl))
      (pss_one (ps_expr (pe_bm PySem.F.plainAttrs_list PySem.F.slot_list_append PySem.F.type_list_append mt_append (pv 4) (pa_cons (pe_c (cal_node_sum T) hr (by decide) rfl (pa_cons (pv 0) (pa_cons (pv 1) (pa_cons (pv 3) (pa_cons (pv 4) (pa_cons (pv 5) (pa_cons (pv 2) pa_nil))))))) pa_nil)))))
    (pss_one (ps_ret (pv 4)))))), fun as d h k σ R => ?_⟩
  obtain ⟨S, Hd, R0, ns, ls, b, rfl, hS, hB, rfl⟩ := h
  have hl := hS.len
  refine sq (s_setL R (el_call (ea_t (et_v R rfl) ea_nil) ⟨S, Hd, R0, ns, rfl, hS, rfl⟩) fun p σ1 H1 _ R1 => ?_)
  refine sq (s_setL R1 el_nil fun q σ2 H2 _ R2 => ?_)
  refine sq (s_rng1 (i := 5) (n := (ns.length : Int)) R2 (ET.eq (et_lenT (et_ixT (et_v R2 rfl) et_int (d := .tuple (ns.map encN)) rfl)) (by rw [List.length_map])) (by omega) (by omega) (fun m => [.t (dSh S Hd R0 ns), .t (dW ls), .t (.bool b), Sl.w p (.lst ((ownOf S ns).map dC)), Sl.w q (.lst ((vals ls S ns m).map fr)), .any]) (fun _ _ => True) rfl (fun _ _ => trivial) (fun Hm m σ3 H3 hm R3 _ _ => ?_) fun σ3 H3 R3 _ => ?_)
  · have hm' : m < ns.length := by omega
    refine s_append R3 rfl (et_call (ea_t (et_v R3 rfl) (ea_t (et_v R3 rfl) (ea_cons (e1_w R3 rfl) (ea_cons (e1_w R3 rfl) (ea_t (et_v R3 rfl) (ea_t (et_v R3 rfl) ea_nil)))))) ⟨S, Hd, R0, ns, ls, vals ls S ns m, m, b, rfl, hS, hm', vals_len ls S ns m, fun x hx => hB ls x ?_, rfl⟩) (by rw [List.length_map, vals_len]; omega) fun H4 R4 => ⟨(R4.forget 5).eq ?_, trivial⟩
    · have := vals_mono ls S ns (ns.length - m) m x hx
      rwa [show m + (ns.length - m) = ns.length by omega] at this
    · show _ = [.t (dSh S Hd R0 ns), .t (dW ls), .t (.bool b), Sl.w p (.lst ((ownOf S ns).map dC)), Sl.w q (.lst ((vals ls S ns m ++ [nodeSum ls S (ownOf S ns) (vals ls S ns m) m (ruleAt ns m)]).map fr)), .any]
      rw [List.map_append]
      rfl
  · rw [Int.toNat_natCast] at R3
    exact s_retW R3 (i := 4) rfl k
end
end CW

set_option maxRecDepth 100000
set_option maxHeartbeats 4000000
/-! counts, order: the walks. -/
namespace CW
open PySem PySem.Spec PyProof.Rows L2
open C8 (Cal Met Mak pe_c pe_mk pe_mt pe_mt0)
section
variable {K : PySem.W.Frag} {P : Program} {w : World} {A : Around} {H : Hp} {σ : L2.St} {tl tk tv : TE} {g : TG} {tt : TT} {vs : List Nat}
theorem ew_dc0 (h : ET K tl σ H (.tuple [])) : EW (K := K) (tDcG (dkInt P w K A) (iTup K tl) g tt tk tv vs) σ H (.dk []) := fun H1 e Q k =>
  h H1 e _ fun v H2 e2 h2 => by
    obtain ⟨a, xs, rfl, t, q⟩ := h2.t
    cases q
    refine ⟨a, rfl, ⟨[], t.sq⟩, fun D hD => ?_⟩
    refine ⟨fun i m H' => i = 0 ∧ H' = upd H2 D (.dK []), ⟨0, rfl, rfl⟩, fun i m H' ⟨e1, e3⟩ => .inl ⟨⟨[], ?_, Nat.zero_le _⟩, ?_⟩⟩
    · subst e3
      exact (t.keep (keep_same (same_upd hD))).sq
    · subst e3
      exact k D _ _ (e2.free hD) (e2.trans (same_upd hD)) upd_same ⟨[], rfl, .nil⟩
end
theorem k_pg_tup2 {X : Cx} {es : List Expr} {k : Nat} {pos : Pos} {t : TGs} (K : PySem.W.Frag) (h : X.K = K) (hc : X.calm = true) (hp : PGs X es t) (hn : (assignEach es X.env).length = 2) (hst : (assignEach es X.env).findIdx? (·.1) = none) : PG X (.Tuple es k pos) (gTup K 2 t) := h ▸ pg_tup hc hp hn hst
theorem dval_putT {m : KD} {k : Key} {d : PyData} (h : ∀ p ∈ m, p.2 = d) : ∀ p ∈ dput m k d, p.2 = d := by
  intro p hp
  unfold dput at hp
  split at hp
  · obtain ⟨q, hq, rfl⟩ := List.mem_map.mp hp
    show (if q.1 = k then (q.1, d) else q).2 = d
    split
    · rfl
    · exact h q hq
  · rcases List.mem_append.mp hp with hp | hp
    · exact h p hp
    · rw [List.mem_singleton.mp hp]
theorem dofI_all {d : PyData} : ∀ (ps : List (Int × PyData)) (m : KD), (∀ p ∈ ps, p.2 = d) → (∀ p ∈ m, p.2 = d) → ∀ p ∈ ps.foldl (fun m p => dput m (.inl p.1) p.2) m, p.2 = d
  | [], m, _, h => h
  | q :: ps, m, h1, h2 => dofI_all ps _ (fun p hp => h1 p (List.mem_cons_of_mem _ hp)) (by
    have e := h1 q List.mem_cons_self
    show ∀ p ∈ dput m (.inl q.1) q.2, p.2 = d
    rw [e]
    exact dval_putT h2)
theorem dval_of {m : KD} {k : Key} {d : PyData} (h : ∀ p ∈ m, p.2 = d) (hk : (dval m k).isSome = true) : dval m k = some d := by
  unfold dval at hk ⊢
  cases q : m.find? (fun kv => decide (kv.1 = k)) with
  | none => rw [q] at hk; cases hk
  | some p =>
    show some p.2 = some d
    rw [h p (List.mem_of_find?_eq_some q)]
section
variable {P : Program} {w : World} {K : PySem.W.Frag} {mg : Str → Option Value} {base : Heap}
theorem last_node {ns : List Node} (h : ns ≠ []) : ∃ x, x ∈ ns ∧ atI (ns.map encN) (-1) = some (encN x) ∧ lastR ns = x.1 := by
  have hp := List.length_pos_iff.mpr h
  have hg : ns[ns.length - 1]? = some ns[ns.length - 1] := List.getElem?_eq_getElem (show ns.length - 1 < ns.length by omega)
  refine ⟨ns[ns.length - 1], List.getElem_mem _, ?_, by unfold lastR; rw [hg]⟩
  have e : ixN (ns.map encN).length (-1) = some (ns.length - 1) := by
    unfold ixN
    rw [if_neg (by omega), List.length_map, if_pos (by omega)]
    congr 1
    omega
  unfold atI
  rw [e]
  show (ns.map encN)[ns.length - 1]? = _
  rw [List.getElem?_map, hg]
  rfl
theorem cut_take {xs : List PyData} {m : Nat} (h : m ≤ xs.length) : cutD xs none (some (m : Int)) = xs.take m := by
  unfold cutD
  rw [HT.sIx_nat, HT.sIx_none, Nat.sub_zero, List.drop_zero, Nat.min_eq_left h]
theorem last_get {xs : List Int} (h : xs ≠ []) : atI (xs.map fr) (-1) = some (fr (xs.getD (xs.length - 1) 0)) := by
  have hp := List.length_pos_iff.mpr h
  have e : ixN (xs.map fr).length (-1) = some (xs.length - 1) := by
    unfold ixN
    rw [if_neg (by omega), List.length_map, if_pos (by omega)]
    congr 1
    omega
  unfold atI
  rw [e]
  show (xs.map fr)[xs.length - 1]? = _
  rw [List.getElem?_map, List.getD_eq_getElem?_getD, List.getElem?_eq_getElem (show xs.length - 1 < xs.length by omega)]
  rfl
abbrev Noutside : List Str := ["sheet", "own", "v"]
theorem sc_outside : FnScope Noutside ["sheet"] (defScope sQoutside) := ⟨rfl, rfl, rfl, by decide +kernel, rfl, by decide +kernel, by decide +kernel⟩
theorem cal_outside (T : Tx K mg base) : Cal P w K mg base 3 "outside" (spL K Poutside) [] := by
  have sc := sc_outside
  refine cal_l T 29 29 rfl rfl sc (fun _ _ _ _ _ _ us hl => match us, hl with | [_], _ => rfl) (fun as d h => ?_) (by decide) fun cdv A outer s H Q E hr => ?_
  · (first | (obtain ⟨_, rfl, _⟩ := h; rfl) | (obtain ⟨_, _, rfl, _⟩ := h; rfl) | (obtain ⟨_, _, _, rfl, _⟩ := h; rfl) | (obtain ⟨_, _, _, _, rfl, _⟩ := h; rfl) | (obtain ⟨_, _, _, _, _, rfl, _⟩ := h; rfl) | (obtain ⟨_, _, _, _, _, _, rfl, _⟩ := h; rfl) | (obtain ⟨_, _, _, _, _, _, _, rfl, _⟩ := h; rfl) | (obtain ⟨_, _, _, _, _, _, _, _, rfl, _⟩ := h; rfl))
  refine ⟨_, (pss_cons (ps_set (i := 1) sc.nd rfl (by first | exact Or.inl rfl | exact Or.inr rfl) (pe_c (cal_shown_of T) hr (by decide) rfl (pa_cons (pe_ix ix_tup (pv 0) pe_int (fun _ _ => rfl)) (pa_cons (pe_ix ix_tup (pe_ix ix_tup (pe_ix ix_tup (pv 0) pe_int (fun _ _ => rfl)) (pe_un un_neg pe_int) (fun _ _ => rfl)) pe_int (fun _ _ => rfl)) pa_nil))))
    (pss_one (ps_ret (pe_lc (own := [("v", 2)]) rfl sc.nd (pi_tup (pe_ix ix_tup (pe_ix ix_tup (pv 0) pe_int (fun _ _ => rfl)) pe_int (fun _ _ => rfl))) (blkOk_by (own := [("v", 2)]) (N := Noutside) (sc := defScope sQoutside) (by decide +kernel)) (fun _ _ _ _ _ => (pg_name (i := 2) sc.nd rfl (Or.inl rfl))) (fun _ _ _ _ _ => pts_one (pt_cmpR (k_notIn K rfl) (pv 2) (pv 1) (by rfl))) (fun _ _ _ _ _ => (pv 2)))))), fun as d h k σ R => ?_⟩
  obtain ⟨S, Hd, R0, ns, rfl, hS, hl, rfl⟩ := h
  obtain ⟨x, hm, h1, h2⟩ := last_node hS.ne
  obtain ⟨f1, f2⟩ := hS.fl x hm
  refine sq (s_set R (et_call (ea_t (et_ixT (et_v R rfl) et_int (d := dF S Hd R0) rfl) (ea_t (et_ixT (et_ixT (et_ixT (et_v R rfl) et_int (d := .tuple (ns.map encN)) rfl) (et_neg et_int) (d := encN x) h1) et_int (d := dR x.1) rfl) ea_nil)) ⟨S, Hd, R0, _, rfl, f1, f2, rfl⟩) fun σ1 H1 _ R1 => ?_)
  refine s_retL R1 (EL.eq (el_compT (xs := S) (enc := .int) (p := fun v => !(shownOf S x.1).contains v) (f := .int) R1 (et_ixT (et_ixT (et_v R1 rfl) et_int (d := dF S Hd R0) rfl) et_int (d := dC S) rfl) (Nat.le_trans hl (by decide)) fun m v hv σ2 H2 R2 e2 => ⟨eb_t (et_ninT (et_v R2 rfl) (et_v R2 rfl)), fun _ => et_v R2 rfl⟩) (by unfold outsideOf; rw [h2])) k
abbrev Nbounds : List Str := ["sheet", "weights", "free", "low", "high"]
theorem sc_bounds : FnScope Nbounds ["sheet", "weights"] (defScope sQbounds) := ⟨rfl, rfl, rfl, by decide +kernel, rfl, by decide +kernel, by decide +kernel⟩
theorem cal_bounds (T : Tx K mg base) : Cal P w K mg base 8 "bounds" (spT K Pbounds) [] := by
  have sc := sc_bounds
  refine cal_t T 30 30 rfl rfl sc (fun _ _ _ _ _ _ us hl => match us, hl with | [_, _], _ => rfl) (fun as d h => ?_) (by decide) fun cdv A outer s H Q E hr => ?_
  · (first | (obtain ⟨_, rfl, _⟩ := h; rfl) | (obtain ⟨_, _, rfl, _⟩ := h; rfl) | (obtain ⟨_, _, _, rfl, _⟩ := h; rfl) | (obtain ⟨_, _, _, _, rfl, _⟩ := h; rfl) | (obtain ⟨_, _, _, _, _, rfl, _⟩ := h; rfl) | (obtain ⟨_, _, _, _, _, _, rfl, _⟩ := h; rfl) | (obtain ⟨_, _, _, _, _, _, _, rfl, _⟩ := h; rfl) | (obtain ⟨_, _, _, _, _, _, _, _, rfl, _⟩ := h; rfl))
  refine ⟨_, (pss_cons (ps_set (i := 2) sc.nd rfl (by first | exact Or.inl rfl | exact Or.inr rfl) (pe_c (cal_free_weight T) hr (by decide) rfl (pa_cons (pv 1) (pa_cons (pe_c (cal_outside T) hr (by decide) rfl (pa_cons (pv 0) pa_nil)) pa_nil))))
    (pss_cons (ps_set (i := 3) sc.nd rfl (by first | exact Or.inl rfl | exact Or.inr rfl) (pe_c (cal_times T) hr (by decide) rfl (pa_cons (pv 2) (pa_cons (pe_ix ix_list (pe_c (cal_all_sums T) hr (by decide) rfl (pa_cons (pv 0) (pa_cons (pv 1) (pa_cons pe_bl pa_nil)))) (pe_un un_neg pe_int) (fun _ _ => rfl)) pa_nil))))
    (pss_cons (ps_set (i := 4) sc.nd rfl (by first | exact Or.inl rfl | exact Or.inr rfl) (pe_c (cal_times T) hr (by decide) rfl (pa_cons (pv 2) (pa_cons (pe_ix ix_list (pe_c (cal_all_sums T) hr (by decide) rfl (pa_cons (pv 0) (pa_cons (pv 1) (pa_cons pe_bl pa_nil)))) (pe_un un_neg pe_int) (fun _ _ => rfl)) pa_nil))))
    (pss_one (ps_ret (pe_tup (pa_cons (pv 3) (pa_cons (pv 4) pa_nil)))))))), fun as d h k σ R => ?_⟩
  obtain ⟨S, Hd, R0, ns, ls, rfl, hS, hB, hl, rfl⟩ := h
  have hol : (outsideOf S ns).length ≤ 900 := Nat.le_trans (List.length_filter_le _ _) hl
  have hvl := vals_len ls S ns ns.length
  have hp := List.length_pos_iff.mpr hS.ne
  have hvne : vals ls S ns ns.length ≠ [] := fun e => by rw [e] at hvl; simp at hvl; omega
  have hlast := last_get hvne
  rw [hvl] at hlast
  have hsm : Sm64 ((vals ls S ns ns.length).getD (ns.length - 1) 0) := hB ls _ (getD_mem (by omega))
  refine sq (s_set R (et_call (ea_t (et_v R rfl) (ea_cons (EL.e1 (el_call (ea_t (et_v R rfl) ea_nil) ⟨S, Hd, R0, ns, rfl, hS, hl, rfl⟩)) ea_nil)) ⟨ls, _, rfl, hol, rfl⟩) fun σ1 H1 _ R1 => ?_)
  refine sq (s_set R1 (et_call (ea_t (et_v R1 rfl) (ea_t (et_ixL (EL.e1 (el_call (ea_t (et_v R1 rfl) (ea_t (et_v R1 rfl) (ea_t et_bl ea_nil))) ⟨S, Hd, R0, ns, ls, false, rfl, hS, hB, rfl⟩)) (et_neg et_int) hlast) ea_nil)) ⟨_, _, rfl, hsm, rfl⟩) fun σ2 H2 _ R2 => ?_)
  refine sq (s_set R2 (et_call (ea_t (et_v R2 rfl) (ea_t (et_ixL (EL.e1 (el_call (ea_t (et_v R2 rfl) (ea_t (et_v R2 rfl) (ea_t et_bl ea_nil))) ⟨S, Hd, R0, ns, ls, true, rfl, hS, hB, rfl⟩)) (et_neg et_int) hlast) ea_nil)) ⟨_, _, rfl, hsm, rfl⟩) fun σ3 H3 _ R3 => ?_)
  exact s_retT R3 (et_tup (ds := [fr _, fr _]) (ea_t (et_v R3 rfl) (ea_t (et_v R3 rfl) ea_nil))) k
abbrev Ndemand_closed : List Str := ["sheet"]
theorem sc_demand_closed : FnScope Ndemand_closed ["sheet"] (defScope sQdemand_closed) := ⟨rfl, rfl, rfl, by decide +kernel, rfl, by decide +kernel, by decide +kernel⟩
theorem cal_demand_closed (T : Tx K mg base) : Cal P w K mg base 4 "demand_closed" (spT K Pdemand_closed) [] := by
  have sc := sc_demand_closed
  refine cal_t T 31 31 rfl rfl sc (fun _ _ _ _ _ _ us hl => match us, hl with | [_], _ => rfl) (fun as d h => ?_) (by decide) fun cdv A outer s H Q E hr => ?_
  · (first | (obtain ⟨_, rfl, _⟩ := h; rfl) | (obtain ⟨_, _, rfl, _⟩ := h; rfl) | (obtain ⟨_, _, _, rfl, _⟩ := h; rfl) | (obtain ⟨_, _, _, _, rfl, _⟩ := h; rfl) | (obtain ⟨_, _, _, _, _, rfl, _⟩ := h; rfl) | (obtain ⟨_, _, _, _, _, _, rfl, _⟩ := h; rfl) | (obtain ⟨_, _, _, _, _, _, _, rfl, _⟩ := h; rfl) | (obtain ⟨_, _, _, _, _, _, _, _, rfl, _⟩ := h; rfl))
  refine ⟨_, (pss_one (ps_if (pt_val (pe_c (cal_is_open T) hr (by decide) rfl (pa_cons (pv 0) pa_nil)))
      (pss_one ps_never)
      pss_nil)), fun as d h k σ R => ?_⟩
  obtain ⟨S, Hd, R0, ns, rfl, hS, rfl⟩ := h
  refine s_if (b := false) (eb_B (et_call (ea_t (et_v R rfl) ea_nil) ⟨S, Hd, R0, ns, rfl, hS, rfl⟩)) (fun hb => by cases hb) fun _ H1 e1 => ?_
  exact k .non H1 e1 .non
abbrev Nsum_of : List Str := ["sheet", "weights"]
theorem sc_sum_of : FnScope Nsum_of ["sheet", "weights"] (defScope sQsum_of) := ⟨rfl, rfl, rfl, by decide +kernel, rfl, by decide +kernel, by decide +kernel⟩
theorem cal_sum_of (T : Tx K mg base) : Cal P w K mg base 9 "sum_of" (spT K Psum_of) [] := by
  have sc := sc_sum_of
  refine cal_t T 32 32 rfl rfl sc (fun _ _ _ _ _ _ us hl => match us, hl with | [_, _], _ => rfl) (fun as d h => ?_) (by decide) fun cdv A outer s H Q E hr => ?_
  · (first | (obtain ⟨_, rfl, _⟩ := h; rfl) | (obtain ⟨_, _, rfl, _⟩ := h; rfl) | (obtain ⟨_, _, _, rfl, _⟩ := h; rfl) | (obtain ⟨_, _, _, _, rfl, _⟩ := h; rfl) | (obtain ⟨_, _, _, _, _, rfl, _⟩ := h; rfl) | (obtain ⟨_, _, _, _, _, _, rfl, _⟩ := h; rfl) | (obtain ⟨_, _, _, _, _, _, _, rfl, _⟩ := h; rfl) | (obtain ⟨_, _, _, _, _, _, _, _, rfl, _⟩ := h; rfl))
  refine ⟨_, (pss_cons (ps_expr (pe_c (cal_demand_closed T) hr (by decide) rfl (pa_cons (pv 0) pa_nil)))
    (pss_one (ps_ret (pe_ix ix_tup (pe_c (cal_bounds T) hr (by decide) rfl (pa_cons (pv 0) (pa_cons (pv 1) pa_nil))) pe_int (fun _ _ => rfl))))), fun as d h k σ R => ?_⟩
  obtain ⟨S, Hd, R0, ns, ls, rfl, hS, hB, hl, rfl⟩ := h
  refine sq (et_call (K := K) (d := .none) (ea_t (et_v R rfl) ea_nil) ⟨S, Hd, R0, ns, rfl, hS, rfl⟩ H (.refl _) _ fun v H1 e1 _ => ?_)
  have R1 := R.same e1
  exact s_retT R1 (et_ixT (et_call (ea_t (et_v R1 rfl) (ea_t (et_v R1 rfl) ea_nil)) ⟨S, Hd, R0, ns, ls, rfl, hS, hB, hl, rfl⟩) et_int (d := fr (countLs ls S ns)) rfl) k
abbrev Nwith_prefix : List Str := ["weights", "prefix", "table", "literal", "weight"]
theorem sc_with_prefix : FnScope Nwith_prefix ["weights", "prefix"] (defScope sQwith_prefix) := ⟨rfl, rfl, rfl, by decide +kernel, rfl, by decide +kernel, by decide +kernel⟩
theorem cal_with_prefix (T : Tx K mg base) : Cal P w K mg base 4 "with_prefix" (spT K Pwith_prefix) [] := by
  have sc := sc_with_prefix
  refine cal_t T 33 33 rfl rfl sc (fun _ _ _ _ _ _ us hl => match us, hl with | [_, _], _ => rfl) (fun as d h => ?_) (by decide) fun cdv A outer s H Q E hr => ?_
  · (first | (obtain ⟨_, rfl, _⟩ := h; rfl) | (obtain ⟨_, _, rfl, _⟩ := h; rfl) | (obtain ⟨_, _, _, rfl, _⟩ := h; rfl) | (obtain ⟨_, _, _, _, rfl, _⟩ := h; rfl) | (obtain ⟨_, _, _, _, _, rfl, _⟩ := h; rfl) | (obtain ⟨_, _, _, _, _, _, rfl, _⟩ := h; rfl) | (obtain ⟨_, _, _, _, _, _, _, rfl, _⟩ := h; rfl) | (obtain ⟨_, _, _, _, _, _, _, _, rfl, _⟩ := h; rfl))
  refine ⟨_, (pss_cons (ps_set (i := 2) sc.nd rfl (by first | exact Or.inl rfl | exact Or.inr rfl) (pe_dcG (own := [("literal", 3), ("weight", 4)]) rfl sc.nd (pi_tup (pv 0)) (blkOk_by (own := [("literal", 3), ("weight", 4)]) (N := Nwith_prefix) (sc := defScope sQwith_prefix) (by decide +kernel)) (fun _ _ _ _ _ => (k_pg_tup2 K rfl rfl (pgs_cons (pg_name (i := 3) sc.nd rfl (Or.inl rfl) (Or.inr rfl)) (pgs_cons (pg_name (i := 4) sc.nd rfl (Or.inl rfl) (Or.inr rfl)) pgs_nil)) rfl rfl)) (fun _ _ _ _ _ => pts_nil) (fun _ _ _ _ _ => (pv 3)) (fun _ _ _ _ _ => (pv 4)) (dkInt _ _ _ _)))
    (pss_cons (ps_for PassesOwn.never rfl (pi_tup (pv 1)) (pg_name (i := 3) sc.nd rfl (by first | exact Or.inl rfl | exact Or.inr rfl))
      (pss_one (ps_dput (hu_of hr) (pv 2) (pe_un un_neg (pv 3)) (pe_tup (pa_cons pe_int (pa_cons pe_int pa_nil))) rfl)))
    (pss_one (ps_ret (pe_callTy call_tuple_of (by rfl) T.f_tuple (by decide +kernel) (pa_cons (pe_lc (own := [("literal", 3)]) rfl sc.nd (pi_list (pe_sortedK rfl (cal_literal_key T) hr (by decide) rfl T.f_sorted rfl (pv 2))) (blkOk_by (own := [("literal", 3)]) (N := Nwith_prefix) (sc := defScope sQwith_prefix) (by decide +kernel)) (fun _ _ _ _ _ => (pg_name (i := 3) sc.nd rfl (Or.inl rfl))) (fun _ _ _ _ _ => pts_nil) (fun _ _ _ _ _ => (pe_tup (pa_cons (pv 3) (pa_cons (pe_dget (hu_of hr) (pv 2) (pv 3) (fun _ _ => rfl)) pa_nil))))) pa_nil)))))), fun as d h k σ R => ?_⟩
  obtain ⟨pre, rfl, hl, rfl⟩ := h
  refine sq (s_setW R (ew_dc0 (et_v R rfl)) fun p σ1 H1 _ R1 => ?_)
  refine sq (s_for (xs := pre) (enc := .int) R1 (fun m => [.t (dW []), .t (dC pre), Sl.w p (.dk (dofI ((pre.take m).map fun l => (-l, fr 0)))), .any, .any]) (et_v R1 rfl) rfl (fun Hm m l σ2 H2 hm R2 => ?_) fun σ2 H2 R2 => ?_)
  · refine s_dput R2 rfl (et_tup (ds := [_, _]) (ea_t et_int (ea_t et_int ea_nil))) (fun H' R' _ => et_neg (et_v R' rfl)) ?_ fun H3 R3 => (R3.forget 3).eq ?_
    · have := dofI_len ((pre.take m).map fun l => (-l, fr 0)) []
      have := List.length_take_le' m pre
      simp at *
      unfold dofI
      omega
    · have e : dofI ((pre.take (m + 1)).map fun l => (-l, fr 0)) = dput (dofI ((pre.take m).map fun l => (-l, fr 0))) (.inl (-l)) (fr 0) := by
        rw [List.take_add_one, hm, List.map_append]
        unfold dofI
        rw [List.foldl_append]
        rfl
      rw [e]
      rfl
  · rw [List.take_length] at R2
    have ek : (dofI (pre.map fun l => (-l, fr 0))).map (·.1) = (dedup [] (pre.map fun l => -l)).map .inl := by rw [dofI_keys, List.map_map]; rfl
    have hdl : (dedup [] (pre.map fun l => -l)).length ≤ 900 := by
      have := dedup_len (pre.map fun l => -l) []
      simp at this
      omega
    refine s_retT R2 (et_tupleL (EL.e1 (EL.eq (el_mapL (xs := lsOf pre) (enc := .int) (f := fun l => .tuple [.int l, fr 0]) R2 (EL.e1 (el_sortKD (key := litKey) (dk_w R2 rfl) ek (Nat.le_trans hdl (by decide)) (alike_lits _) (fun x _ => lit_tuple x) (fun x _ => by rw [depth_litKey]; decide) fun x _ => ⟨x, rfl, rfl⟩)) ?_ fun m l hm σ3 H3 R3 e3 => et_tup (ds := [_, _]) (ea_t (et_v R3 rfl) (ea_t (et_dget (dk_w R3 rfl) (fun H9 e9 => dk_w (R3.same e9) rfl) (et_v R3 rfl) (d := fr 0) ?_) ea_nil))) rfl))) k
    · unfold lsOf sortL
      rw [(List.mergeSort_perm _ _).length_eq]
      omega
    · refine dval_of (dofI_all _ [] (fun p hp => ?_) fun p hp => by cases hp) ?_
      · obtain ⟨z, _, rfl⟩ := List.mem_map.mp hp
        rfl
      · show (dval (dofI (pre.map fun l => (-l, fr 0))) (.inl l)).isSome = true
        rw [dofI_in, List.map_map]
        have := List.mem_of_getElem? hm
        unfold lsOf sortL at this
        have := (List.mergeSort_perm _ _).mem_iff.mp this
        show (dedup [] (pre.map fun l => -l)).contains l = true
        simpa using this
abbrev Ncount_with : List Str := ["sheet", "prefix"]
theorem sc_count_with : FnScope Ncount_with ["sheet", "prefix"] (defScope sQcount_with) := ⟨rfl, rfl, rfl, by decide +kernel, rfl, by decide +kernel, by decide +kernel⟩
theorem cal_count_with (T : Tx K mg base) : Cal P w K mg base 10 "count_with" (spT K Pcount_with) [] := by
  have sc := sc_count_with
  refine cal_t T 34 34 rfl rfl sc (fun _ _ _ _ _ _ us hl => match us, hl with | [_, _], _ => rfl) (fun as d h => ?_) (by decide) fun cdv A outer s H Q E hr => ?_
  · (first | (obtain ⟨_, rfl, _⟩ := h; rfl) | (obtain ⟨_, _, rfl, _⟩ := h; rfl) | (obtain ⟨_, _, _, rfl, _⟩ := h; rfl) | (obtain ⟨_, _, _, _, rfl, _⟩ := h; rfl) | (obtain ⟨_, _, _, _, _, rfl, _⟩ := h; rfl) | (obtain ⟨_, _, _, _, _, _, rfl, _⟩ := h; rfl) | (obtain ⟨_, _, _, _, _, _, _, rfl, _⟩ := h; rfl) | (obtain ⟨_, _, _, _, _, _, _, _, rfl, _⟩ := h; rfl))
  refine ⟨_, (pss_one (ps_ret (pe_ix ix_tup (pe_c (cal_sum_of T) hr (by decide) rfl (pa_cons (pv 0) (pa_cons (pe_c (cal_with_prefix T) hr (by decide) rfl (pa_cons (pe_tup pa_nil) (pa_cons (pv 1) pa_nil))) pa_nil))) pe_int (fun _ _ => rfl)))), fun as d h k σ R => ?_⟩
  obtain ⟨S, Hd, R0, ns, pre, rfl, hS, hB, hl, hp, rfl⟩ := h
  exact s_retT R (et_ixT (et_call (ea_t (et_v R rfl) (ea_t (et_call (ea_t (et_tup (ds := []) ea_nil) (ea_t (et_v R rfl) ea_nil)) ⟨pre, rfl, hp, rfl⟩) ea_nil)) ⟨S, Hd, R0, ns, lsOf pre, rfl, hS, hB, hl, rfl⟩) et_int (d := .int (countW S ns pre)) rfl) k
abbrev Nmodel_count : List Str := ["sheet"]
theorem sc_model_count : FnScope Nmodel_count ["sheet"] (defScope sQmodel_count) := ⟨rfl, rfl, rfl, by decide +kernel, rfl, by decide +kernel, by decide +kernel⟩
theorem cal_model_count (T : Tx K mg base) : Cal P w K mg base 11 "model_count" (spT K Pmodel_count) [] := by
  have sc := sc_model_count
  refine cal_t T 35 35 rfl rfl sc (fun _ _ _ _ _ _ us hl => match us, hl with | [_], _ => rfl) (fun as d h => ?_) (by decide) fun cdv A outer s H Q E hr => ?_
  · (first | (obtain ⟨_, rfl, _⟩ := h; rfl) | (obtain ⟨_, _, rfl, _⟩ := h; rfl) | (obtain ⟨_, _, _, rfl, _⟩ := h; rfl) | (obtain ⟨_, _, _, _, rfl, _⟩ := h; rfl) | (obtain ⟨_, _, _, _, _, rfl, _⟩ := h; rfl) | (obtain ⟨_, _, _, _, _, _, rfl, _⟩ := h; rfl) | (obtain ⟨_, _, _, _, _, _, _, rfl, _⟩ := h; rfl) | (obtain ⟨_, _, _, _, _, _, _, _, rfl, _⟩ := h; rfl))
  refine ⟨_, (pss_one (ps_ret (pe_c (cal_count_with T) hr (by decide) rfl (pa_cons (pv 0) (pa_cons (pe_tup pa_nil) pa_nil))))), fun as d h k σ R => ?_⟩
  obtain ⟨S, Hd, R0, ns, rfl, hS, hB, hl, rfl⟩ := h
  exact s_retT R (et_call (ea_t (et_v R rfl) (ea_t (et_tup (ds := []) ea_nil) ea_nil)) ⟨S, Hd, R0, ns, [], rfl, hS, hB, hl, Nat.zero_le _, rfl⟩) k
abbrev Nnumber_of : List Str := ["sheet", "filling", "number", "k"]
theorem sc_number_of : FnScope Nnumber_of ["sheet", "filling"] (defScope sQnumber_of) := ⟨rfl, rfl, rfl, by decide +kernel, rfl, by decide +kernel, by decide +kernel⟩
theorem cal_number_of (T : Tx K mg base) : Cal P w K mg base 11 "number_of" (spT K Pnumber_of) [] := by
  have sc := sc_number_of
  refine cal_t T 37 37 rfl rfl sc (fun _ _ _ _ _ _ us hl => match us, hl with | [_, _], _ => rfl) (fun as d h => ?_) (by decide) fun cdv A outer s H Q E hr => ?_
  · (first | (obtain ⟨_, rfl, _⟩ := h; rfl) | (obtain ⟨_, _, rfl, _⟩ := h; rfl) | (obtain ⟨_, _, _, rfl, _⟩ := h; rfl) | (obtain ⟨_, _, _, _, rfl, _⟩ := h; rfl) | (obtain ⟨_, _, _, _, _, rfl, _⟩ := h; rfl) | (obtain ⟨_, _, _, _, _, _, rfl, _⟩ := h; rfl) | (obtain ⟨_, _, _, _, _, _, _, rfl, _⟩ := h; rfl) | (obtain ⟨_, _, _, _, _, _, _, _, rfl, _⟩ := h; rfl))
  refine ⟨_, (pss_cons (ps_if (pt_cmpR op_eq (pe_c (cal_count_with T) hr (by decide) rfl (pa_cons (pv 0) (pa_cons (pv 1) pa_nil))) pe_int (nomark _))
      (pss_one (ps_ret (pe_un un_neg pe_int)))
      pss_nil)
    (pss_cons (ps_set (i := 2) sc.nd rfl (by first | exact Or.inl rfl | exact Or.inr rfl) pe_int)
    (pss_cons (ps_for PassesOwn.never rfl (pi_range1 rfl T.f_range (pa_cons (pe_callB call_len_seq (by rfl) T.f_len (by decide +kernel) (pa_cons (pv 1) pa_nil)) pa_nil)) (pg_name (i := 3) sc.nd rfl (by first | exact Or.inl rfl | exact Or.inr rfl))
      (pss_one (ps_if (pt_cmpR op_gt (pe_ix ix_tup (pv 1) (pv 3) (fun _ _ => rfl)) pe_int (nomark _))
        (pss_one (ps_aug (i := 2) sc.nd rfl (by first | exact Or.inl rfl | exact Or.inr rfl) (pe_c (cal_count_with T) hr (by decide) rfl (pa_cons (pv 0) (pa_cons (pe_op op_catA (pe_slice sl_tupA (pv 1) po_none (po_some (pv 3))) (pe_tup (pa_cons (pe_un un_neg (pe_ix ix_tup (pv 1) (pv 3) (fun _ _ => rfl))) pa_nil))) pa_nil))) ip_add))
        pss_nil)))
    (pss_one (ps_ret (pv 2)))))), fun as d h k σ R => ?_⟩
  obtain ⟨S, Hd, R0, ns, f, rfl, hS, hB, hl, hf, rfl⟩ := h
  refine sq (s_if (eb_t (et_eqI (et_call (ea_t (et_v R rfl) (ea_t (et_v R rfl) ea_nil)) ⟨S, Hd, R0, ns, f, rfl, hS, hB, hl, by omega, rfl⟩) et_int)) (fun hb H1 e1 => ?_) fun hb H1 e1 => ?_)
  · have e : numberW S ns f = -1 := by unfold numberW; rw [if_pos (by simpa using hb)]
    rw [e] at k
    exact s_retT (R.same e1) (et_neg et_int) k
  have e : numberW S ns f = (List.range f.length).foldl (fun acc k => if f.getD k 0 > 0 then acc + countW S ns (f.take k ++ [-(f.getD k 0)]) else acc) 0 := by unfold numberW; rw [if_neg (by simpa using hb)]
  rw [e] at k
  have R1 := R.same e1
  try unfold tNext
  try dsimp only
  refine sq (s_set R1 et_int fun σ2 H2 _ R2 => ?_)
  refine sq (s_rng1 (i := 3) (n := (f.length : Int)) R2 (ET.eq (et_lenT (et_v R2 rfl)) (by rw [List.length_map])) (by omega) (by omega) (fun m => [.t (dSh S Hd R0 ns), .t (dC f), .t (.int ((List.range m).foldl (fun acc k => if f.getD k 0 > 0 then acc + countW S ns (f.take k ++ [-(f.getD k 0)]) else acc) 0)), .any]) (fun _ _ => True) rfl (fun _ _ => trivial) (fun Hm m σ3 H3 hm R3 _ _ => ?_) fun σ3 H3 R3 _ => ?_)
  · have hm' : m < f.length := by omega
    have es : (List.range (m + 1)).foldl (fun acc k => if f.getD k 0 > 0 then acc + countW S ns (f.take k ++ [-(f.getD k 0)]) else acc) 0 = if f.getD m 0 > 0 then (List.range m).foldl (fun acc k => if f.getD k 0 > 0 then acc + countW S ns (f.take k ++ [-(f.getD k 0)]) else acc) 0 + countW S ns (f.take m ++ [-(f.getD m 0)]) else (List.range m).foldl (fun acc k => if f.getD k 0 > 0 then acc + countW S ns (f.take k ++ [-(f.getD k 0)]) else acc) 0 := by
      rw [List.range_succ, List.foldl_append]
      rfl
    refine s_if (eb_t (et_ib (et_ixT (et_v R3 rfl) (et_v R3 rfl) (get_int hm')) et_int)) (fun hb H4 e4 => ?_) fun hb H4 e4 => ?_
    · have hb' : f.getD m 0 > 0 := by simpa using hb
      have R4 := R3.same e4
      have hcut : cutD (f.map .int) none (some (m : Int)) = (f.take m).map .int := by
        rw [cut_take (by rw [List.length_map]; omega), List.map_take]
      refine s_aug R4 rfl (et_call (ea_t (et_v R4 rfl) (ea_t (ET.eq (et_catT (et_slT (et_v R4 rfl) eo_none (eo_some (et_v R4 rfl))) (et_tup (ds := [_]) (ea_t (et_neg (et_ixT (et_v R4 rfl) (et_v R4 rfl) (get_int hm'))) ea_nil)) ?_) (by rw [hcut]; show _ = dC (f.take m ++ [-(f.getD m 0)]); unfold dC; rw [List.map_append]; rfl)) ea_nil)) ⟨S, Hd, R0, ns, _, rfl, hS, hB, hl, ?_, rfl⟩) fun σ5 H5 _ R5 => ⟨(R5.forget 3).eq ?_, trivial⟩
      · rw [hcut, List.length_map]
        have := List.length_take_le' m f
        simp
        omega
      · have := List.length_take_le' m f
        simp
        omega
      · rw [es, if_pos hb']
        rfl
    · have hb' : ¬ f.getD m 0 > 0 := by simpa using hb
      refine ⟨((R3.same e4).forget 3).eq ?_, trivial⟩
      rw [es, if_neg hb']
      rfl
  · rw [Int.toNat_natCast] at R3
    exact s_retT R3 (et_v R3 rfl) k
end
end CW

set_option maxRecDepth 100000
set_option maxHeartbeats 4000000
/-! models, a generator: the walk. -/
namespace CW
open PySem PySem.Spec PyProof.Rows L2 GenW
open C8 (Cal Met Mak pe_c pe_mk pe_mt pe_mt0)
/-! ### if in a generator -/
def tGIf (c : TT) (t u : TGn) : TGn := fun D ys σ H => c σ H fun b H1 => if b = true then t D ys σ H1 else u D ys σ H1
theorem gs_if {X : Cx} {test : Expr} {a b : List Stmt} {pos : Pos} {tc : TT} {t u : TGn} (hc : PT X test tc) (ha : GSs X a t) (hb : GSs X b u) : GS X (.If test a b pos) (tGIf tc t u) := by
  refine ⟨fun A S ip R n ys s₀ c fs K J gd lv s σ H D g hn k hI ht => ?_⟩
  obtain ⟨acc, cc, r, I⟩ := hI
  show Seg _ _ _ _ _ _ _ (.at pos fun _ => ((isTrue test X.env (eval test X.env)) >>= fun d => if d = true then execs a X.env else execs b X.env).wrap K J gd lv) fs s
  refine seg_at (seg_bind_wrap ?_)
  rw [g.over]
  refine wpAny_mono (hc.run _ s σ H _ I ht) (fun d s' ⟨H2, I2, q⟩ => ?_) fun x s' hx => k.exc n s₀ x s' hx
  cases d with
  | true =>
    rw [if_pos rfl] at q
    exact ha.run A S ip R n ys s₀ c fs K J gd lv s' σ H2 D g hn k ⟨acc, cc, r, I2⟩ q
  | false =>
    rw [if_neg Bool.false_ne_true] at q
    exact hb.run A S ip R n ys s₀ c fs K J gd lv s' σ H2 D g hn k ⟨acc, cc, r, I2⟩ q
theorem ps_nox {X : Cx} {st : Stmt} {t : TS} (h : PS X.nox st t) : PS X st t := ⟨fun pins s σ H D I hw => wpAny_mono (h.run pins s σ H D (I.wish _) hw) (fun _ _ q => q.unwish) fun _ _ z => False.elim z⟩
theorem gthen {t : TS} {u : TGn} {D : GEnds} {ys : List V} {σ : L2.St} {H : Hp} (h : t { nx := fun σ' H' => u D ys σ' H', rt := D.rt ys, bk := D.bk ys, ct := D.ct ys } σ H) : tGThen (tPlain t) u D ys σ H := h
theorem gthenG {t u : TGn} {D : GEnds} {ys : List V} {σ : L2.St} {H : Hp} (h : t { D with nx := fun ys' σ' H' => u D ys' σ' H' } ys σ H) : tGThen t u D ys σ H := h
/-- a generator def by its name -/
structure GCal (P : Program) (w : World) (K : PySem.W.Frag) (mg : Str → Option Value) (base : Heap) (k : Nat) (x : Str) (sp : SpG) : Prop where
  ex : ∃ (f : Addr) (fd : FuncData) (ps : List Str), GFn P w K mg base k f fd ps sp ∧ mg x = some (.ref f) ∧ PySem.W.keepIn K (.ref f) = true ∧ Binds K fd ps []
/-! ### mirror -/
def dfs (S : List Int) (ns : List Node) : Nat → Cl → List Cl
  | 0, p => [p]
  | m + 1, p => (if countW S ns (p ++ [-(S.getD p.length 0)]) > 0 then dfs S ns m (p ++ [-(S.getD p.length 0)]) else []) ++ (if countW S ns (p ++ [S.getD p.length 0]) > 0 then dfs S ns m (p ++ [S.getD p.length 0]) else [])
def modelsW (S : List Int) (ns : List Node) : List Cl := if countW S ns [] = 0 then [] else dfs S ns S.length []
def sizeN (S : List Int) (ws : List Cl) : Nat := (ws.map fun p => 2 ^ (S.length - p.length + 1) - 1).sum
theorem dfs_len (S : List Int) (ns : List Node) : ∀ m p, (dfs S ns m p).length ≤ 2 ^ m
  | 0, p => Nat.le_refl _
  | m + 1, p => by
    have h1 := dfs_len S ns m (p ++ [-(S.getD p.length 0)])
    have h2 := dfs_len S ns m (p ++ [S.getD p.length 0])
    unfold dfs
    rw [List.length_append, Nat.pow_succ]
    split <;> split <;> (try simp only [List.length_nil]) <;> omega
/-- what is still to come of a stack, its top at the end -/
def todo (S : List Int) (ns : List Node) (ws : List Cl) : List Cl := ws.reverse.flatMap fun p => dfs S ns (S.length - p.length) p
theorem todo_snoc (S : List Int) (ns : List Node) (ws : List Cl) (p : Cl) : todo S ns (ws ++ [p]) = dfs S ns (S.length - p.length) p ++ todo S ns ws := by
  unfold todo
  rw [List.reverse_append, List.reverse_singleton, List.singleton_append, List.flatMap_cons]
theorem sizeN_snoc (S : List Int) (ws : List Cl) (p : Cl) : sizeN S (ws ++ [p]) = sizeN S ws + (2 ^ (S.length - p.length + 1) - 1) := by
  unfold sizeN
  rw [List.map_append, List.sum_append]
  simp
theorem sizeN_len (S : List Int) : ∀ ws : List Cl, ws.length ≤ sizeN S ws
  | [] => Nat.zero_le _
  | p :: ws => by
    have h := sizeN_len S ws
    have : 0 < 2 ^ (S.length - p.length) := Nat.pow_pos (by decide)
    unfold sizeN at h ⊢
    rw [List.map_cons, List.sum_cons, List.length_cons, Nat.pow_succ]
    omega
def spModels (K : PySem.W.Frag) : SpG := fun vs H Q _ => ∃ (S Hd : List Int) (R0 : Rs) (ns : List Node), Ars K H vs [.t (dSh S Hd R0 ns)] ∧ ShOk ns ∧ Bd S ns ∧ S.length ≤ 9 ∧ ∀ out H', Same H H' → TdAll K H' out ((modelsW S ns).map dC) → Q out H'
abbrev Nmodels : List Str := ["sheet", "waiting", "prefix", "variable", "literal"]
theorem sc_models : GScope Nmodels ["sheet"] (defScope sQmodels) := ⟨rfl, rfl, rfl, by decide +kernel, rfl, by decide +kernel, by decide +kernel⟩
section
variable {P : Program} {w : World} {K : PySem.W.Frag} {mg : Str → Option Value} {base : Heap}
theorem gcal_models (T : Tx K mg base) : GCal P w K mg base 13 "models" (spModels K) := by
  have sc := sc_models
  obtain ⟨fd, F⟩ := T.fn 38 (d := ⟨("models", none), "models", "models", defArgs sQmodels, defBody sQmodels, defScope sQmodels, [], []⟩) rfl
  have F' : FunD K "models" "models" (defArgs sQmodels) (defBody sQmodels) (defScope sQmodels) [] [] (He.ga K "models") fd := F
  have b : Binds K fd ["sheet"] [] := F'.bindsN fun _ _ _ _ _ _ us hl => match us, hl with | [_], _ => rfl
  obtain ⟨oc, od, dV, kV, doc, pm, an, cdv, ct, osl, rfl, lk, hcd, _, _⟩ := F'.ex
  refine ⟨⟨He.ga K "models", _, ["sheet"], gfn_of (k := 12) lk hcd sc (fun vs H Q E h => ?_) (fun A outer s H vs Q E pn hr hsp => ?_), T.glo 38 rfl, F'.kp, b⟩⟩
  · obtain ⟨S, Hd, R0, ns, h, _⟩ := h
    rw [ars_len h]; rfl
  refine ⟨_, gss_cons (gs_ps (ps_nox (ps_set (i := 1) sc.nd rfl (by first | exact Or.inl rfl | exact Or.inr rfl) (pe_lst (pa_cons (pe_tup pa_nil) pa_nil)))))
    (gss_cons (gs_ps (ps_nox (ps_if (pt_cmpR op_eq (pe_c (cal_model_count T) hr (by decide) rfl (pa_cons (pv 0) pa_nil)) pe_int (nomark _))
      (pss_one (ps_set (i := 1) sc.nd rfl (by first | exact Or.inl rfl | exact Or.inr rfl) (pe_lst pa_nil)))
      pss_nil)))
    (gss_cons (gs_while owns_gcx (PT.nox (pt_cmpR op_gt (pe_callB call_len_seq (by rfl) T.f_len (by decide +kernel) (pa_cons (pv 1) pa_nil)) pe_int (nomark _)))
      (gss_cons (gs_ps (ps_nox (ps_set (i := 2) sc.nd rfl (by first | exact Or.inl rfl | exact Or.inr rfl) (pe_bm0 PySem.F.plainAttrs_list PySem.F.slot_list_pop PySem.F.type_list_pop mt_pop (pv 1)))))
      (gss_cons (gs_if (PT.nox (pt_cmpR op_eq (pe_callB call_len_seq (by rfl) T.f_len (by decide +kernel) (pa_cons (pv 2) pa_nil)) (pe_callB call_len_seq (by rfl) T.f_len (by decide +kernel) (pa_cons (pe_ix ix_tup (pe_ix ix_tup (pv 0) pe_int (fun _ _ => rfl)) pe_int (fun _ _ => rfl)) pa_nil)) (nomark _)))
        (gss_cons (gs_yield (PE.nox (pv 2))) gss_nil)
        (gss_pss (PSs.nox (pss_cons (ps_set (i := 3) sc.nd rfl (by first | exact Or.inl rfl | exact Or.inr rfl) (pe_ix ix_tup (pe_ix ix_tup (pe_ix ix_tup (pv 0) pe_int (fun _ _ => rfl)) pe_int (fun _ _ => rfl)) (pe_callB call_len_seq (by rfl) T.f_len (by decide +kernel) (pa_cons (pv 2) pa_nil)) (fun _ _ => rfl)))
    (pss_one (ps_for PassesOwn.never rfl (pi_tup (pe_tup (pa_cons (pv 3) (pa_cons (pe_un un_neg (pv 3)) pa_nil)))) (pg_name (i := 4) sc.nd rfl (by first | exact Or.inl rfl | exact Or.inr rfl))
      (pss_one (ps_if (pt_cmpR op_gt (pe_c (cal_count_with T) hr (by decide) rfl (pa_cons (pv 0) (pa_cons (pe_op op_catA (pv 2) (pe_tup (pa_cons (pv 4) pa_nil))) pa_nil))) pe_int (nomark _))
        (pss_one (ps_expr (pe_bm PySem.F.plainAttrs_list PySem.F.slot_list_append PySem.F.type_list_append mt_append (pv 1) (pa_cons (pe_op op_catA (pv 2) (pe_tup (pa_cons (pv 4) pa_nil))) pa_nil))))
        pss_nil)))))))) gss_nil))) gss_nil)), ?_⟩
  obtain ⟨S, Hd, R0, ns, hA, hS, hB, hl, k⟩ := hsp
  have hcw : ∀ (pre : Cl), pre.length ≤ 900 → ∀ {σ : L2.St} {H' : Hp} {te : TE}, ET K te σ H' (dC pre) → ET K (tVar 0) σ H' (dSh S Hd R0 ns) → ET K (tCall (spT K Pcount_with) [] E0 (tCons (tVar 0) (tCons te tNil))) σ H' (.int (countW S ns pre)) := fun pre hp σ H' te h1 h2 => et_call (ea_t h2 (ea_t h1 ea_nil)) ⟨S, Hd, R0, ns, pre, rfl, hS, hB, by omega, hp, rfl⟩
  have R := rel_start (K := K) (H := H) (N := Nmodels) hA (by simp)
  have hS0 : ∀ {σ : L2.St} {H' : Hp} {Γ : List Sl}, Rel K H H H' σ Γ → Γ[0]? = some (.t (dSh S Hd R0 ns)) → ET K (tOp (rIxT K) (tOp (rIxT K) (tVar 0) (tC (.int 0))) (tC (.int 0))) σ H' (dC S) := fun R hi => et_ixT (et_ixT (et_v R hi) et_int (d := dF S Hd R0) rfl) et_int rfl
  have hpw : ∀ m, 0 < 2 ^ m := fun m => Nat.pow_pos (by decide)
  have hp9 : 2 ^ S.length ≤ 2 ^ 9 := Nat.pow_le_pow_right (by decide) hl
  have hml : (modelsW S ns).length ≤ 2 ^ S.length := by
    unfold modelsW
    split
    · simp
    · exact dfs_len S ns S.length []
  refine gthen (s_setL R (el_lst (ds := [dC []]) (ea_t (et_tup (ds := []) ea_nil) ea_nil)) fun p σ1 H1 e1 R1 => ?_)
  dsimp only
  refine gthen (s_ifM (fun σ' H' => ∃ q, Rel K H H H' σ' [.t (dSh S Hd R0 ns), Sl.w q (.lst ((if countW S ns [] = 0 then ([] : List Cl) else [[]]).map dC)), .any, .any, .any]) (eb_t (et_eqI (et_call (ea_t (et_v R1 rfl) ea_nil) ⟨S, Hd, R0, ns, rfl, hS, hB, by omega, rfl⟩) et_int)) (fun σ2 H2 ⟨q, R2⟩ => ?_) (fun hb H2 e2 k2 => ?_) fun hb H2 e2 k2 => ?_)
  · dsimp only
    refine gthenG ?_
    refine ⟨fun m ys σ' H' => ∃ (ws outs : List Cl), Rel K H H H' σ' [.t (dSh S Hd R0 ns), Sl.w q (.lst (ws.map dC)), .any, .any, .any] ∧ TdAll K H' ys (outs.map dC) ∧ outs ++ todo S ns ws = modelsW S ns ∧ (∀ q ∈ ws, q.length ≤ S.length) ∧ sizeN S ws ≤ 2 ^ (S.length + 1) ∧ sizeN S ws = m,
      ⟨_, _, [], R2, .nil, ?_, ?_, ?_, rfl⟩, fun m ys σ' H' ⟨ws, outs, R', ty, ht, hq, hz, hm⟩ => ?_⟩
    · unfold modelsW
      split
      · rfl
      · show [] ++ ([[]] : List Cl).reverse.flatMap _ = _
        simp
    · intro z hz
      split at hz
      · cases hz
      · rw [List.mem_singleton.mp hz]; exact Nat.zero_le _
    · split
      · exact Nat.zero_le _
      · unfold sizeN
        simp
    have hwl := sizeN_len S ws
    refine (eb_t (et_ib (et_lenL (e1_w R' rfl)) et_int)) H' (.refl _) _ fun H2' e2 => ?_
    have R3 := R'.rebase.same e2
    rcases List.eq_nil_or_concat ws with rfl | ⟨ws', pre, hcc⟩
    · refine iteF ?_
      show Q ys H2'
      refine k ys H2' R3.base ?_
      have : outs = modelsW S ns := by simpa [todo] using ht
      rw [← this]
      exact ty.same e2
    rw [List.concat_eq_append] at hcc
    subst hcc
    have hlt : decide ((0 : Int) < ((ws' ++ [pre]).map dC).length) = true := by simp
    rw [hlt]
    refine iteT ⟨fun ys' σ'' H'' => ∃ m', m' < m ∧ ∃ (ws outs : List Cl), Rel K H H H'' σ'' [.t (dSh S Hd R0 ns), Sl.w q (.lst (ws.map dC)), .any, .any, .any] ∧ TdAll K H'' ys' (outs.map dC) ∧ outs ++ todo S ns ws = modelsW S ns ∧ (∀ q ∈ ws, q.length ≤ S.length) ∧ sizeN S ws ≤ 2 ^ (S.length + 1) ∧ sizeN S ws = m', fun ys' σ'' H'' h => h, ?_⟩
    rw [sizeN_snoc] at hz hm
    rw [todo_snoc] at ht
    have hpl : pre.length ≤ S.length := hq pre (by simp)
    have hq' : ∀ z ∈ ws', z.length ≤ S.length := fun z hz => hq z (by simp [hz])
    have hpn := hpw (S.length - pre.length)
    rw [Nat.pow_succ] at hz hm
    rw [Nat.pow_succ] at hz
    have R3' : Rel K H H' H2' σ' [.t (dSh S Hd R0 ns), Sl.w q (.lst (ws'.map dC ++ [dC pre])), .any, .any, .any] := R3.eq (by rw [List.map_append]; rfl)
    refine gthen (s_pop0 R3' rfl fun v H4 R4 tv => ?_)
    refine g_name R4 tv fun σ5 R5 => ?_
    dsimp only
    refine gthenG ?_
    have R5' : Rel K H H' H4 σ5 [.t (dSh S Hd R0 ns), Sl.w q (.lst (ws'.map dC)), .t (dC pre), .any, .any] := R5.eq rfl
    have hS5 : ∀ {σ : L2.St} {H'' : Hp} {Γ : List Sl}, Rel K H H' H'' σ Γ → Γ[0]? = some (.t (dSh S Hd R0 ns)) → ET K (tOp (rIxT K) (tOp (rIxT K) (tVar 0) (tC (.int 0))) (tC (.int 0))) σ H'' (dC S) := fun R hi => et_ixT (et_ixT (et_v R hi) et_int (d := dF S Hd R0) rfl) et_int rfl
    refine (eb_t (et_eqI (et_lenT (et_v R5' rfl)) (et_lenT (hS5 R5' rfl)))) H4 (.refl _) _ fun H5 e5 => ?_
    have R6 := R5'.same e5
    have ylen : ys.length ≤ 2 ^ 9 := by
      rw [ty.length, List.length_map]
      have := congrArg List.length ht
      rw [List.length_append] at this
      omega
    by_cases hpe : pre.length = S.length
    · rw [show decide (((pre.map PyData.int).length : Int) = ((S.map PyData.int).length : Int)) = true by simp [hpe]]
      refine iteT (gthenG ⟨Nat.lt_of_le_of_lt ylen (by decide), et_v R6 rfl H5 (.refl _) _ fun x H7 e7 tx => ?_⟩)
      have hd0 : dfs S ns (S.length - pre.length) pre = [pre] := by rw [hpe, Nat.sub_self]; rfl
      rw [hd0] at ht
      refine ⟨sizeN S ws', by omega, ws', outs ++ [pre], ((R'.back (R6.same e7)).forget 2).eq rfl, ?_, by rw [← ht]; simp, hq', by omega, rfl⟩
      rw [List.map_append]
      exact TdAll.snoc (ty.k (R6.same e7).keep) tx
    · rw [show decide (((pre.map PyData.int).length : Int) = ((S.map PyData.int).length : Int)) = false by simp; omega]
      refine iteF ?_
      obtain ⟨m2, hm2⟩ : ∃ m2, S.length - pre.length = m2 + 1 := ⟨S.length - pre.length - 1, by omega⟩
      have hlen : pre.length < S.length := by omega
      rw [hm2] at ht hm hz
      rw [show dfs S ns (m2 + 1) pre = (if countW S ns (pre ++ [-(S.getD pre.length 0)]) > 0 then dfs S ns m2 (pre ++ [-(S.getD pre.length 0)]) else []) ++ (if countW S ns (pre ++ [S.getD pre.length 0]) > 0 then dfs S ns m2 (pre ++ [S.getD pre.length 0]) else []) from rfl] at ht
      have hvat : atI (S.map PyData.int) ((pre.map PyData.int).length : Int) = some (.int (S.getD pre.length 0)) := by rw [List.length_map]; exact get_int hlen
      generalize S.getD pre.length 0 = v at ht hvat
      have hpl900 : ∀ l : Int, (pre ++ [l]).length ≤ 900 := fun l => by simp; omega
      have hsub : ∀ l : Int, S.length - (pre ++ [l]).length = m2 := fun l => by simp; omega
      have hpm := hpw m2
      have hpw2 : 2 ^ (m2 + 1) = 2 ^ m2 * 2 := Nat.pow_succ ..
      show tSeq _ _ _ _ _
      refine sq (s_set R6 (et_ixT (hS5 R6 rfl) (et_lenT (et_v R6 rfl)) hvat) fun σ7 H7 e7 R7 => ?_)
      refine s_for (xs := [v, -v]) (enc := .int) R7 (fun n => [.t (dSh S Hd R0 ns), Sl.w q (.lst ((ws' ++ (([v, -v].take n).filter fun l => decide (countW S ns (pre ++ [l]) > 0)).map fun l => pre ++ [l]).map dC)), .t (dC pre), .t (.int v), .any]) (et_tup (ds := [.int v, .int (-v)]) (ea_t (et_v R7 rfl) (ea_t (et_neg (et_v R7 rfl)) ea_nil))) (by first | rfl | simp) (fun Hm n l σ8 H8 hl R8 => ?_) fun σ8 H8 R8 => ?_
      · have hcat : ∀ {Γ : List Sl} {σ : L2.St} {Ha Hb Hc : Hp}, Rel K Ha Hb Hc σ Γ → Γ[2]? = some (.t (dC pre)) → Γ[4]? = some (.t (.int l)) → ET K (tOp (rCatA K) (tVar 2) (tTup (tCons (tVar 4) tNil))) σ Hc (dC (pre ++ [l])) := fun R h1 h2 => ET.eq (et_catT (et_v R h1) (et_tup (ds := [_]) (ea_t (et_v R h2) ea_nil)) (by simp; omega)) (by unfold dC; rw [List.map_append]; rfl)
        have etk : ([v, -v].take (n + 1)).filter (fun l => decide (countW S ns (pre ++ [l]) > 0)) = ([v, -v].take n).filter (fun l => decide (countW S ns (pre ++ [l]) > 0)) ++ if countW S ns (pre ++ [l]) > 0 then [l] else [] := by
          rw [List.take_add_one, hl, Option.toList_some, List.filter_append]
          congr 1
          by_cases h : countW S ns (pre ++ [l]) > 0 <;> simp [h]
        refine s_if (eb_t (et_ib (hcw _ (hpl900 l) (hcat R8 rfl rfl) (et_v R8 rfl)) et_int)) (fun hb H9 e9 => ?_) fun hb H9 e9 => ?_
        · have hb' : countW S ns (pre ++ [l]) > 0 := by simpa using hb
          refine s_append (R8.same e9) rfl (hcat (R8.same e9) rfl rfl) ?_ fun H10 R10 => (R10.forget 4).eq ?_
          · have h1 := sizeN_len S ws'
            have h2 := List.length_filter_le (fun l => decide (countW S ns (pre ++ [l]) > 0)) ([v, -v].take n)
            have h3 := List.length_take_le' n [v, -v]
            have h4 : 2 ^ (S.length + 1) = 2 ^ S.length * 2 := Nat.pow_succ ..
            simp at h3 ⊢
            simp at h2
            omega
          · have ein : (ws' ++ ((([v, -v].take n).filter fun l => decide (countW S ns (pre ++ [l]) > 0)) ++ [l]).map fun l => pre ++ [l]).map dC = (ws' ++ (([v, -v].take n).filter fun l => decide (countW S ns (pre ++ [l]) > 0)).map fun l => pre ++ [l]).map dC ++ [dC (pre ++ [l])] := by simp
            rw [etk, if_pos hb', ein]
            rfl
        · have hb' : ¬ countW S ns (pre ++ [l]) > 0 := by simpa using hb
          refine ((R8.same e9).forget 4).eq ?_
          rw [etk, if_neg hb', List.append_nil]
          rfl
      · have hfl : (([v, -v].take [v, -v].length).filter fun l => decide (countW S ns (pre ++ [l]) > 0)).map (fun l => pre ++ [l]) = (if countW S ns (pre ++ [v]) > 0 then [pre ++ [v]] else []) ++ (if countW S ns (pre ++ [-v]) > 0 then [pre ++ [-v]] else []) := by
          by_cases hA : countW S ns (pre ++ [v]) > 0 <;> by_cases hB' : countW S ns (pre ++ [-v]) > 0 <;> simp [hA, hB']
        rw [hfl] at R8
        have hone : ∀ (c : Prop) [Decidable c] (l : Int) (us : List Cl), todo S ns (us ++ if c then [pre ++ [l]] else []) = (if c then dfs S ns m2 (pre ++ [l]) else []) ++ todo S ns us ∧ sizeN S (us ++ if c then [pre ++ [l]] else []) ≤ sizeN S us + (2 ^ m2 * 2 - 1) ∧ ((∀ z ∈ us, z.length ≤ S.length) → ∀ z ∈ us ++ (if c then [pre ++ [l]] else []), z.length ≤ S.length) := fun c _ l us => by
          split
          · refine ⟨by rw [todo_snoc, hsub], by rw [sizeN_snoc, hsub, hpw2]; exact Nat.le_refl _, fun h z hz => ?_⟩
            rcases List.mem_append.mp hz with hz | hz
            · exact h z hz
            · rw [List.mem_singleton.mp hz]; simp; omega
          · rw [List.append_nil]
            exact ⟨rfl, by omega, fun h => h⟩
        obtain ⟨a1, a2, a3⟩ := hone (countW S ns (pre ++ [v]) > 0) v ws'
        obtain ⟨b1, b2, b3⟩ := hone (countW S ns (pre ++ [-v]) > 0) (-v) (ws' ++ if countW S ns (pre ++ [v]) > 0 then [pre ++ [v]] else [])
        rw [List.append_assoc] at b1 b2 b3
        refine ⟨_, ?_, _, outs, ((R'.back R8).forget 2 |>.forget 3).eq rfl, ty.k R8.keep, ?_, b3 (a3 hq'), ?_, rfl⟩
        · omega
        · rw [b1, a1, ← ht]
          simp
        · omega
  · have h0 : countW S ns [] = 0 := by simpa using hb
    rw [if_pos h0] at k2
    exact s_setL (R1.same e2) el_nil fun q σ3 H3 e3 R3 => k2 _ _ ⟨q, R3.eq rfl⟩
  · have h0 : ¬ countW S ns [] = 0 := by simpa using hb
    rw [if_neg h0] at k2
    exact k2 _ _ ⟨p, (R1.same e2).eq rfl⟩
end
end CW

set_option maxRecDepth 100000
set_option maxHeartbeats 4000000
/-! model_at, which may raise: the walk. -/
namespace CW
open PySem PySem.Spec PyProof.Rows L2
open C8 (Cal Met Mak pe_c pe_mk pe_mt pe_mt0)
section
variable {X : Cx} {C : Addr} {bmB : List Value} {B newId initId : String}
/-- X() -/
theorem pmk_own0 {x : Str} {p pos : Pos} (F : ExcBaseFacts B newId initId bmB) (q : PySem.W.excIn X.K C bmB newId = true) (gC : X.mg x = some (.ref C)) (kC : PySem.W.keepIn X.K (.ref C) = true) (r : Raises X (.ref C)) (hg : Gl X x)
    (hdb : (x == ("__debug__" : Str)) = false := by decide) : PMk X (.Call (.Name x p) [] [] pos) (fun _ H Q => Q (.ref C) none H) := by
  intro pins s σ H Q I h
  refine wpAny_Call_Name_kw (ld_glob I hg gC ?_ hdb)
  refine PySem.W.callWith_K0 (first := []) I.kIn kC ?_
  show wpAny _ _ (call (.ref C) []) _ _ _
  obtain ⟨bm, N, nm, qn, bs, hdct, sn, sub, ab, col, dd, k0, k1, k2, k3, k5, mN, hC, hN, hni, T⟩ := exc_obj I.kIn q
  refine wpAny_call_exc_subT F T hC hN hni (fun h' e hm => ?_) (by show 0 ≤ sizeLine; exact Nat.zero_le _)
  exact mk_of I hm r h (I.hok.gone hm.new)
end
structure XCal (P : Program) (w : World) (K : PySem.W.Frag) (mg : Str → Option Value) (base : Heap) (k : Nat) (x : Str) (sp : Sp) : Prop where
  ex : ∃ (f : Addr) (fd : FuncData) (ps : List Str), FnOk P w K mg base (L2.CX P w) k f fd ps sp ∧ mg x = some (.ref f) ∧ PySem.W.keepIn K (.ref f) = true ∧ Binds K fd ps []
def atStep (S : List Int) (ns : List Node) (z : Cl × Int) (v : Int) : Cl × Int := if z.2 < countW S ns (z.1 ++ [-v]) then (z.1 ++ [-v], z.2) else (z.1 ++ [v], z.2 - countW S ns (z.1 ++ [-v]))
theorem atStep_len (S : List Int) (ns : List Node) : ∀ (xs : List Int) (z : Cl × Int), (xs.foldl (atStep S ns) z).1.length = z.1.length + xs.length
  | [], z => rfl
  | v :: xs, z => by
    rw [List.foldl_cons, atStep_len S ns xs]
    unfold atStep
    split <;> simp <;> omega
def atW (S : List Int) (ns : List Node) (k : Int) : Cl := (S.foldl (atStep S ns) ([], k)).1
def spModelAt (K : PySem.W.Frag) : Sp := fun vs H Q E => ∃ (S Hd : List Int) (R0 : Rs) (ns : List Node) (k : Int), Ars K H vs [.t (dSh S Hd R0 ns), .t (.int k)] ∧ ShOk ns ∧ Bd S ns ∧ S.length ≤ 800 ∧
  (0 ≤ k ∧ k < countW S ns [] → ∀ v H', Same H H' → Td K H' v (dC (atW S ns k)) → Q v H') ∧ (¬ (0 ≤ k ∧ k < countW S ns []) → ∀ H', Same H H' → E (.ref (He.ga K "NoFilling")) none H')
abbrev Nmodel_at : List Str := ["sheet", "k", "prefix", "variable", "count"]
theorem sc_model_at : FnScope Nmodel_at ["sheet", "k"] (defScope sQmodel_at) := ⟨rfl, rfl, rfl, by decide +kernel, rfl, by decide +kernel, by decide +kernel⟩
section
variable {P : Program} {w : World} {K : PySem.W.Frag} {mg : Str → Option Value} {base : Heap}
theorem Tx.g_NoFilling (T : Tx K mg base) : mg "NoFilling" = some (.ref (He.ga K "NoFilling")) := T.glo 106
theorem xcal_model_at (T : Tx K mg base) : XCal P w K mg base 12 "model_at" (spModelAt K) := by
  have sc := sc_model_at
  obtain ⟨x1, x2, x3, x4⟩ := He.exc_ok (T.fa 111)
  obtain ⟨fd, F⟩ := T.fn 36
  have F' : FunD K "model_at" "model_at" (defArgs sQmodel_at) (defBody sQmodel_at) (defScope sQmodel_at) [] [] (He.ga K "model_at") fd := F
  have b : Binds K fd ["sheet", "k"] [] := F'.bindsN fun _ _ _ _ _ _ us hl => match us, hl with | [_, _], _ => rfl
  refine ⟨⟨He.ga K "model_at", fd, ["sheet", "k"], F'.ok (CX := L2.CX P w) (k := 11) sc (fun vs H Q E h => ?_) (fun cdv A outer s H vs Q E hr hsp => ?_), T.glo 36 rfl, F'.kp, b⟩⟩
  · obtain ⟨S, Hd, R0, ns, k, h, _⟩ := h
    rw [ars_len h]; rfl
  refine ⟨_, pss_cons (ps_if (PT.nox (pt_not (pt_chain op_le op_lt pe_int (pv 1) (pe_c (cal_model_count T) hr (by decide) rfl (pa_cons (pv 0) pa_nil)))))
      (pss_one (ps_raise rfl (takes_of rfl rfl rfl rfl) (pmk_own0 PySem.F.excBase_ValueError x1 T.g_NoFilling x2 (raises_own x3 x4) rfl)))
      pss_nil)
    (PSs.nox (pss_cons (ps_set (i := 2) sc.nd rfl (by first | exact Or.inl rfl | exact Or.inr rfl) (pe_tup pa_nil))
    (pss_cons (ps_for PassesOwn.never rfl (pi_tup (pe_ix ix_tup (pe_ix ix_tup (pv 0) pe_int (fun _ _ => rfl)) pe_int (fun _ _ => rfl))) (pg_name (i := 3) sc.nd rfl (by first | exact Or.inl rfl | exact Or.inr rfl))
      (pss_cons (ps_set (i := 4) sc.nd rfl (by first | exact Or.inl rfl | exact Or.inr rfl) (pe_c (cal_count_with T) hr (by decide) rfl (pa_cons (pv 0) (pa_cons (pe_op op_catA (pv 2) (pe_tup (pa_cons (pe_un un_neg (pv 3)) pa_nil))) pa_nil))))
      (pss_one (ps_if (pt_cmpR op_lt (pv 1) (pv 4) (nomark _))
        (pss_one (ps_set (i := 2) sc.nd rfl (by first | exact Or.inl rfl | exact Or.inr rfl) (pe_op op_catA (pv 2) (pe_tup (pa_cons (pe_un un_neg (pv 3)) pa_nil)))))
        (pss_cons (ps_aug (i := 1) sc.nd rfl (by first | exact Or.inl rfl | exact Or.inr rfl) (pv 4) ip_sub)
        (pss_one (ps_set (i := 2) sc.nd rfl (by first | exact Or.inl rfl | exact Or.inr rfl) (pe_op op_catA (pv 2) (pe_tup (pa_cons (pv 3) pa_nil))))))))))
    (pss_one (ps_ret (pv 2)))))), ?_⟩
  obtain ⟨S, Hd, R0, ns, k, hA, hS, hB, hl, hk1, hk2⟩ := hsp
  have R := rel_start (K := K) (H := H) (N := Nmodel_at) hA (by simp)
  refine sq (s_if (eb_not (eb_B (et_chain et_int (et_v R rfl) (et_call (ea_t (et_v R rfl) ea_nil) ⟨S, Hd, R0, ns, rfl, hS, hB, by omega, rfl⟩)))) (fun hb H1 e1 => ?_) fun hb H1 e1 => ?_)
  · refine hk2 (fun h => ?_) H1 e1
    simp at hb
    omega
  have hin : 0 ≤ k ∧ k < countW S ns [] := by simpa using hb
  have R1 := R.same e1
  try unfold tNext
  try dsimp only
  refine sq (s_set R1 (d := dC []) (et_tup (ds := []) ea_nil) fun σ2 H2 _ R2 => ?_)
  refine sq (s_for (xs := S) (enc := .int) R2 (fun n => [.t (dSh S Hd R0 ns), .t (.int ((S.take n).foldl (atStep S ns) ([], k)).2), .t (dC ((S.take n).foldl (atStep S ns) ([], k)).1), .any, .any]) (et_ixT (et_ixT (et_v R2 rfl) et_int (d := dF S Hd R0) rfl) et_int (d := dC S) rfl) rfl (fun Hm n v σ3 H3 hv R3 => ?_) fun σ3 H3 R3 => ?_)
  · have hlen : ((S.take n).foldl (atStep S ns) ([], k)).1.length ≤ n := by
      rw [atStep_len]
      have := List.length_take_le n S
      simpa using this
    have hn : n < S.length := (List.getElem?_eq_some_iff.mp hv).1
    have es : (S.take (n + 1)).foldl (atStep S ns) ([], k) = atStep S ns ((S.take n).foldl (atStep S ns) ([], k)) v := by
      rw [List.take_add_one, hv, Option.toList_some, List.foldl_append]
      rfl
    generalize (S.take n).foldl (atStep S ns) ([], k) = z at R3 hlen es
    obtain ⟨pre, kk⟩ := z
    have hlen : pre.length ≤ n := hlen
    have hcat : ∀ {Γ : List Sl} {σ : L2.St} {Ha Hb Hc : Hp} {te : TE} {l : Int}, Rel K Ha Hb Hc σ Γ → Γ[2]? = some (.t (dC pre)) → ET K te σ Hc (.int l) → ET K (tOp (rCatA K) (tVar 2) (tTup (tCons te tNil))) σ Hc (dC (pre ++ [l])) := fun R h1 h2 => ET.eq (et_catT (et_v R h1) (et_tup (ds := [_]) (ea_t h2 ea_nil)) (by simp; omega)) (by unfold dC; rw [List.map_append]; rfl)
    refine sq (s_set R3 (et_call (ea_t (et_v R3 rfl) (ea_t (hcat R3 rfl (et_neg (et_v R3 rfl))) ea_nil)) ⟨S, Hd, R0, ns, pre ++ [-v], rfl, hS, hB, by omega, by simp; omega, rfl⟩) fun σ4 H4 _ R4 => ?_)
    refine s_if (eb_t (et_ib (et_v R4 rfl) (et_v R4 rfl))) (fun hb5 H5 e5 => ?_) fun hb5 H5 e5 => ?_
    · have hlt : kk < countW S ns (pre ++ [-v]) := by simpa using hb5
      have R5 := R4.same e5
      refine s_set R5 (hcat R5 rfl (et_neg (et_v R5 rfl))) fun σ6 H6 _ R6 => ((R6.forget 3).forget 4).eq ?_
      rw [es]
      unfold atStep
      rw [if_pos hlt]
      rfl
    · have hlt : ¬ kk < countW S ns (pre ++ [-v]) := by simpa using hb5
      have R5 := R4.same e5
      refine sq (s_aug R5 rfl (et_v R5 rfl) fun σ6 H6 _ R6 => ?_)
      refine s_set R6 (hcat R6 rfl (et_v R6 rfl)) fun σ7 H7 _ R7 => ((R7.forget 3).forget 4).eq ?_
      rw [es]
      unfold atStep
      rw [if_neg hlt]
      rfl
  · rw [List.take_length] at R3
    exact s_retT R3 (et_v R3 rfl) (hk1 hin)
end
end CW

set_option maxRecDepth 100000
set_option maxHeartbeats 4000000
/-! Trail: the walks. -/
namespace CW
open PySem PySem.Spec PyProof.Rows L2
open C8 (Cal Met Mak pe_c pe_mk pe_mt pe_mt0)
/-! ### min of a tuple of ints -/
section
variable {X : Cx}
def rMinT (K : PySem.W.Frag) : List V → Hp → VK → Prop := fun vs H Q => ∃ (a : Addr) (n : Int) (ns : List Int), vs = [V.ref a] ∧ SqT K H a ((n :: ns).map V.int) ∧ Q (.int (ns.foldl min n)) H
theorem reads_ints {h : Heap} : ∀ {ns : List Int} {us : List Value}, Vals (ns.map V.int) us → ∃ as, ReadsAll h us (ns.map .int) as
  | [], _, r => by cases r; exact ⟨_, .nil⟩
  | n :: ns, _, r => by
    rw [List.map_cons] at r
    cases r with
    | cons a b =>
      obtain ⟨t, rfl⟩ := a
      obtain ⟨as, q⟩ := reads_ints (h := h) b
      exact ⟨_, .cons (.int n t) q⟩
theorem cr_minT (hc : X.calm = true) (hu : X.A.units + 65 < cLine) : CallR X (.builtin "min") (rMinT X.K) := by
  intro pins s σ H vs us Q I r h
  obtain ⟨a, n, ns, rfl, hs, q⟩ := h
  obtain ⟨its, rv, hl, _⟩ := I.tuple hs
  rw [Vals.ref1 r]
  obtain ⟨as, rd⟩ := reads_ints (h := s.heap) rv
  have rd' : ReadsAll s.heap its.toArray.toList (.int n :: ns.map .int) as := by simpa using rd
  have hd : ∀ ms : List Int, PyData.depthAll (ms.map .int) = 0 := fun ms => by
    induction ms with
    | nil => rw [List.map_nil, PyData.depthAll]
    | cons m ms ih => rw [List.map_cons, PyData.depthAll, PyData.depth, ih]; rfl
  refine PySem.W.min_tuple_data (I.ok.hd hc) (show s.heap.IsTuple a its.toArray from hl) rd' ⟨fun x hx y hy => ?_, fun x hx e => ?_⟩ ?_ fun i v h' tk bs hi rv hk => ?_
  · obtain ⟨i, _, rfl⟩ := List.mem_map.mp (show x ∈ (n :: ns).map PyData.int from hx)
    obtain ⟨j, _, rfl⟩ := List.mem_map.mp (show y ∈ (n :: ns).map PyData.int from hy)
    rfl
  · obtain ⟨i, _, rfl⟩ := List.mem_map.mp (show x ∈ (n :: ns).map PyData.int from hx)
    cases e
  · have : PyData.depthAll (.int n :: ns.map .int) = 0 := hd (n :: ns)
    rw [this]
    omega
  · rw [PySem.W.minD_ints] at rv
    cases rv
    exact ⟨.int _, H, I.kept hk, ⟨_, rfl⟩, q⟩
end
section
variable {K : PySem.W.Frag} {H : Hp} {σ : L2.St} {ta : TE}
theorem et_minT {ns : List Int} (ha : ET K ta σ H (dC ns)) (hn : ns ≠ []) : ET K (tCB (rMinT K) (tCons ta tNil)) σ H (.int (minL ns)) := fun H1 e Q k =>
  ha H1 e _ fun v H2 e2 h => by
    obtain ⟨a, xs, rfl, t, q⟩ := h.t
    obtain rfl := q.ints
    match ns, hn, t with
    | n :: ms, _, t => exact ⟨a, n, ms, rfl, t.sq, k _ H2 e2 (.int _)⟩
end
/-! ### heaps without some objects -/
def off (F : List Addr) (H : Hp) : Hp := fun a => if a ∈ F then none else H a
theorem off_same {F : List Addr} {H : Hp} : Same (off F H) H := fun a u e => by
  unfold off at e
  split at e
  · cases e
  · exact e
theorem off_in {F : List Addr} {H : Hp} {a : Addr} (h : a ∈ F) : off F H a = none := if_pos h
theorem off_none {F : List Addr} {H : Hp} {a : Addr} (h : H a = none) : off F H a = none := by
  unfold off
  split
  · rfl
  · exact h
theorem off_out {F : List Addr} {H : Hp} {a : Addr} (h : a ∉ F) : off F H a = H a := if_neg h
/-- a def's start, the objects at F being its own -/
theorem rel_off {K : PySem.W.Frag} {H : Hp} {N : List Str} {vs : List V} {as : List Ar} (F : List Addr) (h : Ars K H vs as) (hl : as.length ≤ N.length) (hr : ∀ a ∈ as, ∀ ds, a ≠ .l ds) : Rel K (off F H) H H (L2.start N vs) (slots N as) := by
  have R := rel_start h hl
  refine ⟨off_same, .refl H, R.len, fun i s hs => ?_, fun i j a b c c' n h1 h2 => R.own i j a b c c' n h1 h2⟩
  have z := R.sl i s hs
  cases s with
  | any => trivial
  | t d => exact z
  | v x => exact z
  | w a c =>
    obtain ⟨z1, z2, o, z3, z4⟩ := z
    exact ⟨z1, off_none z2, o, z3, z4⟩
  | r ds =>
    exfalso
    unfold slots at hs
    by_cases hi : i < as.length
    · rw [List.getElem?_append_left (by rw [List.length_map]; exact hi), List.getElem?_map, List.getElem?_eq_getElem hi] at hs
      have es : slOf as[i] = .r ds := Option.some.inj hs
      have hm := hr as[i] (List.getElem_mem hi)
      generalize as[i] = y at es hm
      cases y with
      | t d => cases es
      | l d => exact hm d rfl
      | v x => cases es
    · rw [List.getElem?_append_right (by rw [List.length_map]; omega), List.getElem?_replicate] at hs
      split at hs <;> cases hs
/-! ### a Trail -/
def oV : Option Int → V
  | none => .non
  | some i => .int i
def oI : Option Int → PyData
  | none => .none
  | some i => .int i
abbrev Lv : Type := Option Int × Bool
def trF (v1 : V) (r l : Addr) (d : Int) : List (Str × V) := [("first", v1), ("rows", .ref r), ("levels", .ref l), ("decided", .int d)]
def LvOk (K : PySem.W.Frag) (H : Hp) (r l : Addr) (v : V) (z : Lv) : Prop := ∃ (t q : Addr) (ns : List Int), v = .ref t ∧ TuA K H t [oV z.1, .bl z.2, .ref q] ∧ H q = some (.lst (ns.map V.int)) ∧ q ≠ r ∧ q ≠ l ∧ ns.length ≤ 64
structure TrA (K : PySem.W.Frag) (H : Hp) (x r l : Addr) (R : Rs) (rows : List (Option Cl)) (lvs : List Lv) (dec : Int) : Prop where
  obj : ∃ dx v1, H x = some (.ins (He.ga K "Trail") dx (trF v1 r l dec)) ∧ Td K H v1 (dR R)
  rw_ : ∃ rs, H r = some (.lst rs) ∧ TdAll K H rs (rows.map oC)
  lv : ∃ ls, H l = some (.lst ls) ∧ Paired (LvOk K H r l) ls lvs
  ne : r ≠ l
theorem LvOk.same {K : PySem.W.Frag} {H H' : Hp} {r l : Addr} {v : V} {z : Lv} (e : Same H H') (h : LvOk K H r l v z) : LvOk K H' r l v z := by
  obtain ⟨t, q, ns, h1, h2, h3, h4⟩ := h
  exact ⟨t, q, ns, h1, h2.keep (keep_same e), e _ _ h3, h4⟩
theorem paired_imp {α β : Type} {P Q : α → β → Prop} (f : ∀ a b, P a b → Q a b) : ∀ {xs : List α} {ys : List β}, Paired P xs ys → Paired Q xs ys
  | _, _, .nil => .nil
  | _, _, .cons h t => .cons (f _ _ h) (paired_imp f t)
theorem paired_snoc {α β : Type} {P : α → β → Prop} {a : α} {b : β} (h : P a b) : ∀ {xs : List α} {ys : List β}, Paired P xs ys → Paired P (xs ++ [a]) (ys ++ [b])
  | _, _, .nil => .cons h .nil
  | _, _, .cons h' t => .cons h' (paired_snoc h t)
section
variable {K : PySem.W.Frag} {H H' : Hp} {x r l : Addr} {R : Rs} {rows : List (Option Cl)} {lvs : List Lv} {dec : Int}
theorem TrA.same (e : Same H H') (h : TrA K H x r l R rows lvs dec) : TrA K H' x r l R rows lvs dec := by
  obtain ⟨⟨dx, v1, a1, a2⟩, ⟨rs, b1, b2⟩, ⟨ls, c1, c2⟩, ne⟩ := h
  exact ⟨⟨dx, v1, e _ _ a1, a2.same e⟩, ⟨rs, e _ _ b1, b2.same e⟩, ⟨ls, e _ _ c1, paired_imp (fun _ _ => LvOk.same e) c2⟩, ne⟩
/-- the class -/
structure TrC (K : PySem.W.Frag) : Prop where
  c : Cls K (He.ga K "Trail")
  n1 : NoAttr K (He.ga K "Trail") "first"
  n2 : NoAttr K (He.ga K "Trail") "rows"
  n3 : NoAttr K (He.ga K "Trail") "levels"
  n4 : NoAttr K (He.ga K "Trail") "decided"
theorem Tx.trC {mg : Str → Option Value} {base : Heap} (T : Tx K mg base) : TrC K := ⟨He.cls_ok (T.fa 77), He.noat_ok (T.fa 82), He.noat_ok (T.fa 83), He.noat_ok (T.fa 84), He.noat_ok (T.fa 85)⟩
variable {H0 Hk : Hp} {σ : L2.St} {Γ : List Sl} {i : Nat}
theorem et_first (C : TrC K) (h : TrA K H x r l R rows lvs dec) (hi : σ[i]? = some (some (.ref x))) : ET K (tFld K (tVar i) "first") σ H (dR R) := fun H1 e Q k => by
  obtain ⟨⟨dx, v1, a1, a2⟩, _⟩ := h.same e
  exact ⟨_, hi, x, _, dx, _, v1, rfl, a1, C.c, C.n1, rfl, k _ H1 (.refl _) a2⟩
theorem et_decided (C : TrC K) (h : TrA K H x r l R rows lvs dec) (hi : σ[i]? = some (some (.ref x))) : ET K (tFld K (tVar i) "decided") σ H (.int dec) := fun H1 e Q k => by
  obtain ⟨⟨dx, v1, a1, a2⟩, _⟩ := h.same e
  exact ⟨_, hi, x, _, dx, _, _, rfl, a1, C.c, C.n4, rfl, k _ H1 (.refl _) (.int _)⟩
theorem e1_rows (C : TrC K) (h : TrA K H x r l R rows lvs dec) (hi : σ[i]? = some (some (.ref x))) : E1 K (tFld K (tVar i) "rows") σ H (.l (rows.map oC)) := fun H1 e Q k => by
  obtain ⟨⟨dx, v1, a1, a2⟩, ⟨rs, b1, b2⟩, _⟩ := h.same e
  exact ⟨_, hi, x, _, dx, _, _, rfl, a1, C.c, C.n2, rfl, k _ H1 (.refl _) ⟨r, rs, rfl, .inl (.inl b1), b2⟩⟩
end
section
variable {P : Program} {w : World} {K : PySem.W.Frag} {mg : Str → Option Value} {base : Heap}
theorem met_of (T : Tx K mg base) (i jm jc : Nat) {c m q : Str} {st : Stmt} {N ps : List Str} {k : Nat} {sp : Sp} (h : CW.fn[i]? = some ⟨(c, some m), m, q, defArgs st, defBody st, defScope st, [], []⟩) (hm : CW.fa[jm]? = some (.meth c m)) (hc : CW.fa[jc]? = some (.cls c)) (S : FnScope N ps (defScope st))
    (hb : ∀ (kV doc pm : Value) (an : Option Addr) (cdv ct : Value) (us : List Value), us.length = ps.length → bindArgs (PySem.W.fnOf m q (defArgs st) (defBody st) (defScope st) .none kV doc pm an cdv ct) ⟨us, []⟩ = pure (ps.zip us))
    (len : ∀ vs H Q E, sp vs H Q E → vs.length = ps.length)
    (hbody : ∀ (cdv : Value) (A : Around) (outer : List Env) (s : Shared) (H : Hp) (vs : List V) (Q : VK) (E : XK), Room k (A.deeper (envOfC q (defScope st) s.heap.objs.size (He.ma K (He.ga K c) m) cdv)) → sp vs H Q E →
      ∃ t, PSs (cxOf CX0 P w K mg base N q (defScope st) (He.ma K (He.ga K c) m) cdv A outer s H E).nox (defBody st) t ∧ t { nx := fun _ H' => Q .non H', rt := Q } (start N vs) H) : Met P w K mg base (k + 1) (He.ga K c) m sp [] := by
  obtain ⟨fd, F⟩ := T.fn i h
  have F' : FunD K m q (defArgs st) (defBody st) (defScope st) [] [] (He.ma K (He.ga K c) m) fd := F
  refine ⟨⟨He.ma K (He.ga K c) m, fd, ps, [], He.cls_ok (T.fa jc hc), He.meth_ok (T.fa jm hm), F'.ok S len (fun cdv A outer s H vs Q E hr hs => ?_), F'.bindsN hb, .nil⟩⟩
  obtain ⟨t, a, b⟩ := hbody cdv A outer s H vs Q E hr hs
  exact ⟨t, a.nox, b⟩
end
end CW

set_option maxRecDepth 100000
set_option maxHeartbeats 4000000
/-! Trail: __init__, start, decide, literals, tell. -/
namespace CW
open PySem PySem.Spec PyProof.Rows L2
open C8 (Cal Met Mak pe_c pe_mk pe_mt pe_mt0)
theorem sortI_nil : sortI [] = [] := List.Perm.eq_nil (sortI_perm [])
theorem mem_under {R : Rs} {l : Int} {c' : Cl} : c' ∈ under R l ↔ ∃ c ∈ R, undC l c = some c' := by
  unfold under
  rw [mem_residueOf, List.mem_filterMap]
theorem mem_undC {l : Int} {c c' : Cl} (h : undC l c = some c') {z : Int} : z ∈ c' ↔ z ∈ c ∧ z ≠ -l := by
  unfold undC at h
  split at h
  · cases h
  · rename_i h1
    have e := Option.some.inj h
    subst e
    split
    · rw [List.mem_filter]
      simp
    · rename_i h2
      refine ⟨fun q => ⟨q, fun e => ?_⟩, fun q => q.1⟩
      subst e
      exact h2 (by simpa using q)
theorem undC_no {l : Int} {c c' : Cl} (h : undC l c = some c') : l ∉ c := fun q => by
  unfold undC at h
  rw [if_pos (by simpa using q)] at h
  cases h
theorem iabs_eq {a b : Int} (h : iabs a = iabs b) : a = b ∨ a = -b := by
  unfold iabs at h
  split at h <;> split at h <;> omega
theorem vars_under {R : Rs} {l v : Int} (h : v ∈ varsOf (under R l)) : v ∈ varsOf R ∧ v ≠ iabs l := by
  obtain ⟨c', hc', z, hz, rfl⟩ := mem_varsOf.mp h
  obtain ⟨c, hc, hu⟩ := mem_under.mp hc'
  obtain ⟨h1, h2⟩ := (mem_undC hu).mp hz
  refine ⟨mem_varsOf.mpr ⟨c, hc, z, h1, rfl⟩, fun e => ?_⟩
  rcases iabs_eq e with rfl | rfl
  · exact undC_no hu h1
  · exact h2 rfl
theorem vars_under_le (R : Rs) (l : Int) : (varsOf (under R l)).length ≤ (varsOf R).length := nodup_sub_len (nodup_varsOf _) fun _ h => (vars_under h).1
theorem vars_under_lt {R : Rs} {l : Int} (h : iabs l ∈ varsOf R) : (varsOf (under R l)).length < (varsOf R).length := by
  have : (iabs l :: varsOf (under R l)).length ≤ (varsOf R).length := nodup_sub_len (List.nodup_cons.mpr ⟨fun q => (vars_under q).2 rfl, nodup_varsOf _⟩) fun k hk => by
    rcases List.mem_cons.mp hk with rfl | hk
    · exact h
    · exact (vars_under hk).1
  rw [List.length_cons] at this
  omega
theorem propF_fn : ∀ (n : Nat) (R : Rs), (propF n R).2.length ≤ (varsOf R).length
  | 0, _ => Nat.zero_le _
  | n + 1, R => by
    unfold propF
    split
    · exact Nat.zero_le _
    · split
      · exact Nat.zero_le _
      · rename_i u us hu
        have h0 : [u] ∈ R := mem_unitsOf.mp (by rw [hu]; exact List.mem_cons_self)
        have := propF_fn n (under R u)
        have := vars_under_lt (R := R) (l := u) (mem_varsOf.mpr ⟨[u], h0, u, by simp, rfl⟩)
        simp only [List.length_cons]
        omega
theorem prop_fn (R : Rs) : (prop R).2.length ≤ (varsOf R).length := propF_fn _ R
def RsOk (R : Rs) : Prop := Sm R ∧ R.flatten.length ≤ 90000 - 1 ∧ (varsOf R).length < 64
theorem under_ok {R : Rs} (u : Int) (h : RsOk R) : RsOk (under R u) := ⟨sm_under u h.1, Nat.le_trans (flat_under R u) h.2.1, Nat.lt_of_le_of_lt (vars_under_le R u) h.2.2⟩
theorem propF_ok : ∀ (n : Nat) {R : Rs}, RsOk R → RsOk (propF n R).1
  | 0, _, h => h
  | n + 1, R, h => by
    unfold propF
    split
    · exact ⟨⟨by decide, by intro c hc; simp at hc; rw [hc]; exact Nat.zero_le _⟩, by decide, by rw [show varsOf [[]] = [] from sortI_nil]; decide⟩
    · split
      · exact h
      · rename_i u _ _
        exact propF_ok n (under_ok u h)
theorem prop_ok {R : Rs} (h : RsOk R) : RsOk (prop R).1 := propF_ok _ h
section
variable {K : PySem.W.Frag} {H0 Hk H H' : Hp} {σ : L2.St} {Γ : List Sl} {te ta : TE} {d : PyData} {c : Ct} {i j : Nat} {D : Ends}
theorem s_pairN (R : Rel K H0 Hk H σ Γ) (h : EX K te σ H (fun r => r = .pw d c)) (hij : i ≠ j) (k : ∀ q σ' H', H q = none → Same H H' → Rel K H0 Hk H' σ' ((Γ.set i (.t d)).set j (Sl.w q c)) → D.nx σ' H') : tAsg te (gTup K 2 (gCons (gName i) (gCons (gName j) gNil))) D σ H :=
  h H (.refl _) _ fun r v H2 hr e2 q => by
    subst hr
    obtain ⟨a, x, q, o, rfl, h5, h6, h7, h8, h9⟩ := q
    refine ⟨a, [x, .ref q], rfl, h5.sq, rfl, x, [.ref q], rfl, .ref q, [], rfl, rfl, k q _ H2 h7 e2 ?_⟩
    have R1 := (R.set_w j e2 h7 h8 h9).set_t i h6
    rw [List.set_comm _ _ hij.symm, List.set_comm _ _ hij.symm] at R1
    exact R1
end
section
variable {P : Program} {w : World} {K : PySem.W.Frag} {mg : Str → Option Value} {base : Heap}
theorem mak_of (T : Tx K mg base) (i jg jm : Nat) {c q : Str} {st : Stmt} {N ps : List Str} {k : Nat} {sp : Sp} (h : CW.fn[i]? = some ⟨(c, some "__init__"), "__init__", q, defArgs st, defBody st, defScope st, [], []⟩) (hg : CW.fa[jg]? = some (.glo c)) (hm : CW.fa[jm]? = some (.mkr c)) (S : FnScope N ps (defScope st))
    (hb : ∀ (kV doc pm : Value) (an : Option Addr) (cdv ct : Value) (us : List Value), us.length = ps.length → bindArgs (PySem.W.fnOf "__init__" q (defArgs st) (defBody st) (defScope st) .none kV doc pm an cdv ct) ⟨us, []⟩ = pure (ps.zip us))
    (len : ∀ vs H Q E, sp vs H Q E → vs.length = ps.length)
    (hbody : ∀ (cdv : Value) (A : Around) (outer : List Env) (s : Shared) (H : Hp) (vs : List V) (Q : VK) (E : XK), Room k (A.deeper (envOfC q (defScope st) s.heap.objs.size (He.ma K (He.ga K c) "__init__") cdv)) → sp vs H Q E →
      ∃ t, PSs (cxOf CX0 P w K mg base N q (defScope st) (He.ma K (He.ga K c) "__init__") cdv A outer s H E).nox (defBody st) t ∧ t { nx := fun _ H' => Q .non H', rt := Q } (start N vs) H) : Mak P w K mg base (k + 1) c (He.ga K c) sp [] := by
  obtain ⟨fd, F⟩ := T.fn i h
  have F' : FunD K "__init__" q (defArgs st) (defBody st) (defScope st) [] [] (He.ma K (He.ga K c) "__init__") fd := F
  refine ⟨⟨He.ma K (He.ga K c) "__init__", fd, ps, [], He.mkr_ok (T.fa jm hm), F'.ok S len (fun cdv A outer s H vs Q E hr hs => ?_), T.glo jg hg, F'.bindsN hb, .nil⟩⟩
  obtain ⟨t, a, b⟩ := hbody cdv A outer s H vs Q E hr hs
  exact ⟨t, a.nox, b⟩
/-- Trail(residue) -/
def spTi (K : PySem.W.Frag) : Sp := fun vs H Q _ => ∃ x dx v1 R, vs = [.ref x, v1] ∧ Td K H v1 (dR R) ∧ H x = some (.ins (He.ga K "Trail") dx []) ∧
  ∀ H' r l, Same (off [x] H) H' → H r = none → H l = none → TrA K H' x r l R [] [] 0 → Q .non H'
abbrev NTi : List Str := ["self", "residue"]
theorem sc_Ti : FnScope NTi ["self", "residue"] (defScope sQTrail_init) := ⟨rfl, rfl, rfl, by decide +kernel, rfl, by decide +kernel, by decide +kernel⟩
theorem mak_Trail (T : Tx K mg base) : Mak P w K mg base 1 "Trail" (He.ga K "Trail") (spTi K) [] := by
  have sc := sc_Ti
  have C := T.trC
  refine mak_of T 47 76 78 rfl rfl rfl sc (fun _ _ _ _ _ _ us hl => match us, hl with | [_, _], _ => rfl) (fun vs H Q E h => ?_) fun cdv A outer s H vs Q E hr h => ?_
  · obtain ⟨_, _, _, _, rfl, _⟩ := h; rfl
  refine ⟨_, (pss_cons (ps_fld (pv 0) (pv 1) rfl)
    (pss_cons (ps_fld (pv 0) (pe_lst pa_nil) rfl)
    (pss_cons (ps_fld (pv 0) (pe_lst pa_nil) rfl)
    (pss_one (ps_fld (pv 0) pe_int rfl))))), ?_⟩
  obtain ⟨x, dx, v1, R, rfl, h1, hx, k⟩ := h
  have ntx : ∀ {o : HO}, (∀ xs, o ≠ .tup xs) → ∀ {G : Hp}, G x = some o → ∀ xs, G x ≠ some (.tup xs) := fun ho G hg xs e => ho xs (Option.some.inj (hg.symm.trans e))
  refine sq ⟨v1, rfl, .ref x, rfl, x, _, dx, _, rfl, hx, C.c, C.n1, by decide, ?_⟩
  refine sq ⟨by decide, fun r hr1 => ⟨.ref x, rfl, x, _, dx, [("first", v1)], rfl, ?_, C.c, C.n2, ?_, ?_⟩⟩
  · have : x ≠ r := fun e => by subst e; rw [upd_same] at hr1; cases hr1
    rw [upd_ne this, upd_same]
    rfl
  · simp
  refine sq ⟨by decide, fun l hl1 => ⟨.ref x, rfl, x, _, dx, [("first", v1), ("rows", .ref r)], rfl, ?_, C.c, C.n3, ?_, ?_⟩⟩
  · have : x ≠ l := fun e => by subst e; rw [upd_same] at hl1; cases hl1
    rw [upd_ne this, upd_same]
    rfl
  · simp
  refine ⟨.ref x, rfl, x, _, dx, [("first", v1), ("rows", .ref r), ("levels", .ref l)], rfl, upd_same, C.c, C.n4, by simp, ?_⟩
  have xr : x ≠ r := fun e => by subst e; rw [upd_same] at hr1; cases hr1
  have xl : x ≠ l := fun e => by subst e; rw [upd_same] at hl1; cases hl1
  have h0r : H r = none := by rw [upd_ne xr.symm] at hr1; exact hr1
  have lr : l ≠ r := fun e => by subst e; rw [upd_ne xl.symm, upd_same] at hl1; cases hl1
  have h0l : H l = none := by rw [upd_ne xl.symm, upd_ne lr, upd_ne xl.symm] at hl1; exact hl1
  refine k _ r l ?_ h0r h0l ⟨⟨dx, v1, upd_same, ?_⟩, ⟨[], ?_, .nil⟩, ⟨[], ?_, .nil⟩, lr.symm⟩
  · exact same_mut (same_mut (same_mut (same_mut (same_mut (same_mut off_same (off_in (by simp))) (off_none h0r)) (off_in (by simp))) (off_none h0l)) (off_in (by simp))) (off_in (by simp))
  · have nt : ∀ xs, H x ≠ some (.tup xs) := fun xs e => by rw [hx] at e; cases e
    have k1 : Keep H (upd H x (.ins (He.ga K "Trail") dx (putF "first" v1 []))) := keep_upd nt
    refine h1.k (k1.trans ((keep_upd fun xs e => ?_).trans ((keep_upd fun xs e => ?_).trans ((keep_upd fun xs e => ?_).trans ((keep_upd fun xs e => ?_).trans (keep_upd fun xs e => ?_))))))
    · rw [hr1] at e; cases e
    · rw [upd_ne xr, upd_same] at e; cases e
    · rw [hl1] at e; cases e
    · rw [upd_ne xl, upd_same] at e; cases e
    · rw [upd_same] at e; cases e
  · rw [upd_ne xr.symm, upd_ne xr.symm, upd_ne lr.symm, upd_ne xr.symm, upd_same]
  · rw [upd_ne xl.symm, upd_ne xl.symm, upd_same]
end
end CW

set_option maxRecDepth 100000
set_option maxHeartbeats 4000000
/-! Trail: start, decide, literals, tell. -/
namespace CW
open PySem PySem.Spec PyProof.Rows L2
open C8 (Cal Met Mak pe_c pe_mk pe_mt pe_mt0)
section
variable {K : PySem.W.Frag} {H H' : Hp} {x r l a : Addr} {R : Rs} {rows : List (Option Cl)} {lvs : List Lv} {dec : Int} {o : HO} {v : V} {z : Lv}
theorem LvOk.upd (h : LvOk K H r l v z) (ha : ∀ xs, H a ≠ some (.tup xs)) (hq : a = r ∨ a = l ∨ ∃ C dx fs, H a = some (.ins C dx fs)) : LvOk K (upd H a o) r l v z := by
  obtain ⟨t, q, ns, h1, h2, h3, h4, h5, h6⟩ := h
  refine ⟨t, q, ns, h1, h2.keep (keep_upd ha), ?_, h4, h5, h6⟩
  have : q ≠ a := fun e => by
    subst e
    rcases hq with e | e | ⟨C, dx, fs, e⟩
    · exact h4 e
    · exact h5 e
    · rw [h3] at e; cases e
  rw [upd_ne this]
  exact h3
theorem TrA.xr (h : TrA K H x r l R rows lvs dec) : x ≠ r := fun e => by
  obtain ⟨⟨dx, v1, a1, _⟩, ⟨rs, b1, _⟩, _⟩ := h
  subst e
  rw [a1] at b1
  cases b1
theorem TrA.xl (h : TrA K H x r l R rows lvs dec) : x ≠ l := fun e => by
  obtain ⟨⟨dx, v1, a1, _⟩, _, ⟨ls, c1, _⟩, _⟩ := h
  subst e
  rw [a1] at c1
  cases c1
theorem TrA.decd (h : TrA K H x r l R rows lvs dec) {dx : Addr} {fs : List (Str × V)} (hx : H x = some (.ins (He.ga K "Trail") dx fs)) (n : Int) : TrA K (upd H x (.ins (He.ga K "Trail") dx (putF "decided" (.int n) fs))) x r l R rows lvs n := by
  have xr := h.xr
  have xl := h.xl
  obtain ⟨⟨dx', v1, a1, a2⟩, ⟨rs, b1, b2⟩, ⟨ls, c1, c2⟩, ne⟩ := h
  rw [a1] at hx
  obtain ⟨rfl, rfl⟩ : dx' = dx ∧ trF v1 r l dec = fs := by cases hx; exact ⟨rfl, rfl⟩
  have nt : ∀ xs, H x ≠ some (.tup xs) := fun xs e => by rw [a1] at e; cases e
  have kp := keep_upd (o := .ins (He.ga K "Trail") dx' (putF "decided" (.int n) (trF v1 r l dec))) nt
  exact ⟨⟨dx', v1, upd_same, a2.k kp⟩, ⟨rs, by rw [upd_ne xr.symm]; exact b1, b2.k kp⟩, ⟨ls, by rw [upd_ne xl.symm]; exact c1, paired_imp (fun _ _ q => q.upd nt (.inr (.inr ⟨_, _, _, a1⟩))) c2⟩, ne⟩
theorem TrA.levs (h : TrA K H x r l R rows lvs dec) {ls : List V} {lvs' : List Lv} (hp : Paired (LvOk K H r l) ls lvs') : TrA K (upd H l (.lst ls)) x r l R rows lvs' dec := by
  have xl := h.xl
  obtain ⟨⟨dx', v1, a1, a2⟩, ⟨rs, b1, b2⟩, ⟨ls0, c1, c2⟩, ne⟩ := h
  have nt : ∀ xs, H l ≠ some (.tup xs) := fun xs e => by rw [c1] at e; cases e
  have kp := keep_upd (o := .lst ls) nt
  exact ⟨⟨dx', v1, by rw [upd_ne xl]; exact a1, a2.k kp⟩, ⟨rs, by rw [upd_ne ne]; exact b1, b2.k kp⟩, ⟨ls, upd_same, paired_imp (fun _ _ q => q.upd nt (.inr (.inl rfl))) hp⟩, ne⟩
theorem TrA.rowd (h : TrA K H x r l R rows lvs dec) {rs : List V} {rows' : List (Option Cl)} (hp : TdAll K H rs (rows'.map oC)) : TrA K (upd H r (.lst rs)) x r l R rows' lvs dec := by
  have xr := h.xr
  obtain ⟨⟨dx', v1, a1, a2⟩, ⟨rs0, b1, b2⟩, ⟨ls0, c1, c2⟩, ne⟩ := h
  have nt : ∀ xs, H r ≠ some (.tup xs) := fun xs e => by rw [b1] at e; cases e
  have kp := keep_upd (o := .lst rs) nt
  exact ⟨⟨dx', v1, by rw [upd_ne xr]; exact a1, a2.k kp⟩, ⟨rs, upd_same, hp.k kp⟩, ⟨ls0, by rw [upd_ne ne.symm]; exact c1, paired_imp (fun _ _ q => q.upd nt (.inl rfl)) c2⟩, ne⟩
end
section
variable {P : Program} {w : World} {K : PySem.W.Frag} {mg : Str → Option Value} {base : Heap}
/-- start() -/
def spTs (K : PySem.W.Frag) : Sp := fun vs H Q _ => ∃ x r l R rows lvs dec, vs = [.ref x] ∧ RsOk R ∧ TrA K H x r l R rows lvs dec ∧
  ∀ v H' l', Same (off [x] H) H' → H l' = none → TrA K H' x r l' R rows [(none, false)] dec → Td K H' v (dR (prop R).1) → Q v H'
abbrev NTs : List Str := ["self", "left", "found"]
theorem sc_Ts : FnScope NTs ["self"] (defScope sQTrail_start) := ⟨rfl, rfl, rfl, by decide +kernel, rfl, by decide +kernel, by decide +kernel⟩
theorem met_Trail_start (T : Tx K mg base) : Met P w K mg base 8 (He.ga K "Trail") "start" (spTs K) [] := by
  have sc := sc_Ts
  have C := T.trC
  refine met_of T 48 92 77 rfl rfl rfl sc (fun _ _ _ _ _ _ us hl => match us, hl with | [_], _ => rfl) (fun vs H Q E h => ?_) fun cdv A outer s H vs Q E hr h => ?_
  · obtain ⟨_, _, _, _, _, _, _, rfl, _⟩ := h; rfl
  refine ⟨_, (pss_cons (ps_asg (pe_c (cal_propagate T) hr (by decide) rfl (pa_cons (pe_fld (pv 0) rfl) (pa_cons (pe_lst pa_nil) pa_nil))) (pg_tup rfl (pgs_cons (pg_name (i := 1) sc.nd rfl (by first | exact Or.inl rfl | exact Or.inr rfl)) (pgs_cons (pg_name (i := 2) sc.nd rfl (by first | exact Or.inl rfl | exact Or.inr rfl)) pgs_nil))))
    (pss_cons (ps_fld (pv 0) (pe_lst (pa_cons (pe_tup (pa_cons pe_non (pa_cons pe_bl (pa_cons (pv 2) pa_nil)))) pa_nil)) rfl)
    (pss_one (ps_ret (pv 1))))), ?_⟩
  obtain ⟨x, r, l, R, rows, lvs, dec, rfl, hR, h, k⟩ := h
  have R0 := rel_off [x] (N := NTs) (as := [.v (.ref x)]) (K := K) (H := H) (vs := [.ref x]) (.cons rfl .nil) (by simp) (by simp)
  refine sq (s_pairN R0 (ex_propagate (ea_t (et_first C h rfl) (ea_cons (EL.e1 (ds := []) el_nil) ea_nil)) (ls := []) hR.1 (Nat.le_trans hR.2.1 (by decide))) (by decide) fun q σ2 H2 hq e2 R2 => ?_)
  rw [List.foldl_nil] at R2
  have h2 := h.same e2
  obtain ⟨z1, z2, o, z3, vs2, rfl, z4⟩ := R2.sl 2 _ rfl
  obtain ⟨v1, y1, y2⟩ := R2.sl 1 _ rfl
  have x1 : σ2[0]? = some (some (.ref x)) := R2.sl 0 _ rfl
  obtain rfl := z4.ints
  obtain ⟨dx, w1, a1, a2⟩ := h2.obj
  refine sq ⟨.ref q, z1, sz1000 (by simp), fun t ht => ⟨sz1000 (by simp), fun p hp => ⟨.ref x, x1, x, _, dx, trF w1 r l dec, rfl, ?_, C.c, C.n3, (show (4 : Nat) < 1000 by decide), ?_⟩⟩⟩
  · have xt : x ≠ t := fun e => by subst e; rw [a1] at ht; cases ht
    have xp : x ≠ p := fun e => by subst e; rw [upd_ne xt, a1] at hp; cases hp
    rw [upd_ne xp, upd_ne xt]
    exact a1
  have xt : x ≠ t := fun e => by subst e; rw [a1] at ht; cases ht
  have xp : x ≠ p := fun e => by subst e; rw [upd_ne xt, a1] at hp; cases hp
  have pt : p ≠ t := fun e => by subst e; rw [upd_same] at hp; cases hp
  have hp2 : H2 p = none := by rw [upd_ne pt] at hp; exact hp
  have e3 : Same H2 (upd (upd H2 t (.tup [.non, .bl false, .ref q])) p (.lst [.ref t])) := (same_upd ht).trans (same_upd hp)
  have h3 := h2.same e3
  have nt : ∀ xs, upd (upd H2 t (.tup [.non, .bl false, .ref q])) p (.lst [.ref t]) x ≠ some (.tup xs) := fun xs e => by rw [e3 _ _ a1] at e; cases e
  have kp := keep_upd (o := .ins (He.ga K "Trail") dx (putF "levels" (.ref p) (trF w1 r l dec))) nt
  have xr := h2.xr
  refine ⟨v1, y1, k v1 _ p ?_ ?_ ⟨⟨dx, w1, upd_same, (a2.same e3).k kp⟩, ?_, ⟨[.ref t], ?_, .cons ⟨t, q, (prop R).2, rfl, .inl ?_, ?_, ?_, ?_, ?_⟩ .nil⟩, ?_⟩ ((y2.same e3).k kp)⟩
  · exact same_mut (R2.base.trans e3) (off_in (by simp))
  · cases hh : H p with
    | none => rfl
    | some o => rw [e2 _ _ hh] at hp2; cases hp2
  · obtain ⟨rs, b1, b2⟩ := h3.rw_
    exact ⟨rs, by rw [upd_ne xr.symm]; exact b1, b2.k kp⟩
  · rw [upd_ne xp.symm, upd_same]
  · rw [upd_ne xt.symm, upd_ne pt.symm, upd_same]
    rfl
  · have qx : q ≠ x := fun e => by subst e; rw [a1] at z3; cases z3
    rw [upd_ne qx]
    exact e3 _ _ z3
  · intro e
    subst e
    obtain ⟨rs, b1, _⟩ := h.rw_
    rw [b1] at hq
    cases hq
  · intro e
    subst e
    rw [z3] at hp2
    cases hp2
  · have := prop_fn R
    have := hR.2.2
    omega
  · intro e
    subst e
    obtain ⟨rs, b1, _⟩ := h2.rw_
    rw [b1] at hp2
    cases hp2
/-- decide(left, literal, second) -/
def spTd (K : PySem.W.Frag) : Sp := fun vs H Q _ => ∃ x r l R rows lvs dec v2 L n b, vs = [.ref x, v2, .int n, .bl b] ∧ Td K H v2 (dR L) ∧ RsOk L ∧ lvs.length ≤ 90000 ∧ TrA K H x r l R rows lvs dec ∧
  ∀ v H', Same (off [l] H) H' → TrA K H' x r l R rows (lvs ++ [(some n, b)]) dec → Td K H' v (dR (prop (under L n)).1) → Q v H'
abbrev NTd : List Str := ["self", "left", "literal", "second", "found"]
theorem sc_Td : FnScope NTd ["self", "left", "literal", "second"] (defScope sQTrail_decide) := ⟨rfl, rfl, rfl, by decide +kernel, rfl, by decide +kernel, by decide +kernel⟩
theorem met_Trail_decide (T : Tx K mg base) : Met P w K mg base 8 (He.ga K "Trail") "decide" (spTd K) [] := by
  have sc := sc_Td
  have C := T.trC
  refine met_of T 49 93 77 rfl rfl rfl sc (fun _ _ _ _ _ _ us hl => match us, hl with | [_, _, _, _], _ => rfl) (fun vs H Q E h => ?_) fun cdv A outer s H vs Q E hr h => ?_
  · obtain ⟨_, _, _, _, _, _, _, _, _, _, _, rfl, _⟩ := h; rfl
  refine ⟨_, (pss_cons (ps_asg (pe_c (cal_propagate T) hr (by decide) rfl (pa_cons (pe_c (cal_under T) hr (by decide) rfl (pa_cons (pv 1) (pa_cons (pv 2) pa_nil))) (pa_cons (pe_lst pa_nil) pa_nil))) (pg_tup rfl (pgs_cons (pg_name (i := 1) sc.nd rfl (by first | exact Or.inl rfl | exact Or.inr rfl)) (pgs_cons (pg_name (i := 4) sc.nd rfl (by first | exact Or.inl rfl | exact Or.inr rfl)) pgs_nil))))
    (pss_cons (ps_expr (pe_bm PySem.F.plainAttrs_list PySem.F.slot_list_append PySem.F.type_list_append mt_append (pe_fld (pv 0) rfl) (pa_cons (pe_tup (pa_cons (pv 2) (pa_cons (pv 3) (pa_cons (pv 4) pa_nil)))) pa_nil)))
    (pss_one (ps_ret (pv 1))))), ?_⟩
  obtain ⟨x, r, l, R, rows, lvs, dec, w2, L, n, b, rfl, hw2, hL, hlv, h, k⟩ := h
  have R0 := rel_off [l] (N := NTd) (as := [.v (.ref x), .t (dR L), .t (.int n), .t (.bool b)]) (K := K) (H := H) (vs := [.ref x, w2, .int n, .bl b]) (.cons rfl (.cons hw2 (.cons (.int n) (.cons (.bl b) .nil)))) (by simp) (by simp)
  refine sq (s_pairN R0 (ex_propagate (R := under L n) (ea_t (et_call (ea_t (et_v R0 rfl) (ea_t (et_v R0 rfl) ea_nil)) ⟨L, n, rfl, hL.1, rfl⟩) (ea_cons (EL.e1 (ds := []) el_nil) ea_nil)) (ls := []) (under_ok n hL).1 (Nat.le_trans (under_ok n hL).2.1 (by decide))) (by decide) fun q σ2 H2 hq e2 R2 => ?_)
  rw [List.foldl_nil] at R2
  have h2 := h.same e2
  obtain ⟨z1, z2, o, z3, vs2, rfl, z4⟩ := R2.sl 4 _ rfl
  obtain ⟨v1, y1, y2⟩ := R2.sl 1 _ rfl
  have x1 : σ2[0]? = some (some (.ref x)) := R2.sl 0 _ rfl
  obtain ⟨u2, n1, n2⟩ := R2.sl 2 _ rfl
  obtain ⟨u3, m1, m2⟩ := R2.sl 3 _ rfl
  cases n2
  cases m2
  obtain rfl := z4.ints
  obtain ⟨dx, w1, a1, a2⟩ := h2.obj
  obtain ⟨ls, c1, c2⟩ := h2.lv
  have ll : ls.length = lvs.length := Paired.length c2
  refine sq ⟨.ref x, x1, x, _, dx, _, .ref l, rfl, a1, C.c, C.n3, rfl, .inl ⟨rfl, _, SqL.of c1⟩, .int n, n1, .bl b, m1, .ref q, z1, sz1000 (by simp), fun t ht => ⟨l, ls, .ref t, rfl, rfl, (same_upd ht) _ _ c1, by rw [ll]; exact Nat.lt_of_le_of_lt hlv (by decide), ?_⟩⟩
  have e3 : Same H2 (upd H2 t (.tup [.int n, .bl b, .ref q])) := same_upd ht
  have h3 := h2.same e3
  have nt : ∀ xs, upd H2 t (.tup [.int n, .bl b, .ref q]) l ≠ some (.tup xs) := fun xs e => by rw [e3 _ _ c1] at e; cases e
  have kp := keep_upd (o := .lst (ls ++ [.ref t])) nt
  refine ⟨v1, y1, k v1 _ ?_ (h3.levs (paired_snoc ⟨t, q, (prop (under L n)).2, rfl, .inl upd_same, e3 _ _ z3, ?_, ?_, ?_⟩ (paired_imp (fun _ _ z => z.same e3) c2))) ((y2.same e3).k kp)⟩
  · exact same_mut (R2.base.trans e3) (off_in (by simp))
  · intro e
    subst e
    obtain ⟨rs, b1, _⟩ := h.rw_
    rw [b1] at hq
    cases hq
  · intro e
    subst e
    obtain ⟨rs, b1, _⟩ := h.lv
    rw [b1] at hq
    cases hq
  · have := prop_fn (under L n)
    have := (under_ok n hL).2.2
    omega
end
end CW

set_option maxRecDepth 100000
set_option maxHeartbeats 4000000
/-! Trail: literals, tell. -/
namespace CW
open PySem PySem.Spec PyProof.Rows L2
open C8 (Cal Met Mak pe_c pe_mk pe_mt pe_mt0)
theorem paired_get {α β : Type} {P : α → β → Prop} : ∀ {xs : List α} {ys : List β} {n : Nat} {x : α}, Paired P xs ys → xs[n]? = some x → ∃ y, ys[n]? = some y ∧ P x y
  | _, _, _, _, .nil, e => by simp at e
  | _, _, 0, _, .cons r _, e => ⟨_, rfl, by rw [← Option.some.inj e]; exact r⟩
  | _, _, n + 1, _, .cons _ t, e => paired_get (n := n) t (by simpa using e)
theorem paired_map {α β γ : Type} {P : α → γ → Prop} {f : β → γ} : ∀ {xs : List α} {ys : List β}, Paired P xs (ys.map f) → Paired (fun x y => P x (f y)) xs ys
  | [], [], _ => .nil
  | _ :: _, [], h => by cases h
  | [], _ :: _, h => by cases h
  | _ :: _, _ :: _, .cons a b => .cons a (paired_map b)
section
variable {α : Type} {K : PySem.W.Frag} {H0 Hk H H' : Hp} {σ : L2.St} {Γ : List Sl} {te tl : TE} {zs : List α} {i : Nat} {f : α → PyData} {Pz : Hp → V → α → Prop}
/-- [f(x) for x in a list of anything] -/
theorem el_mapV (R : Rel K H0 Hk H σ Γ) (hs : ∀ H1, Same H H1 → ∀ Q : VK, (∀ a vs H2, Same H1 H2 → H2 a = some (.lst vs) → Paired (Pz H2) vs zs → Q (.ref a) H2) → tl σ H1 Q) (hz : zs.length ≤ 100000)
    (el : ∀ (n : Nat) (x : α) (v : V) (H1 : Hp), zs[n]? = some x → Pz H1 v x → ∀ σ' H', Rel K H0 Hk H' σ' (Γ.set i (.v v)) → Same H1 H' → ET K te σ' H' (f x)) : EL K (tLc (iList K tl) (gName i) tYes te [i]) σ H (zs.map f) := fun H1 e Q k =>
  hs H1 e _ fun a vs H2 e2 t q => by
    refine ⟨a, rfl, ⟨vs, .inl (.inl t)⟩, fun D hD => ?_⟩
    have lv : vs.length = zs.length := Paired.length q
    refine lc_list (K := K) (a := a) (xs := vs) (fun n H' => Same H2 H' ∧ ∃ acc, H' D = some (.lst acc) ∧ TdAll K H' acc ((zs.take n).map f)) ⟨same_upd hD, [], upd_same, .nil⟩ (fun n H' _ h => .inl (.inl (h.1 _ _ t))) (fun n v H' hn ⟨e3, acc, hacc, tacc⟩ => ?_) fun H' ⟨e3, acc, hacc, tacc⟩ => ?_
    · obtain ⟨x, hx, px⟩ := paired_get q hn
      have R2 : Rel K H0 Hk H' (σ.set i (some v)) (Γ.set i (.v v)) := (R.same ((e.trans e2).trans e3)).set_v i v
      have hla : acc.length < sizeLine := by
        rw [tacc.length, List.length_map]
        refine Nat.lt_of_le_of_lt ?_ (show 100000 < sizeLine by decide)
        rw [List.length_take]
        omega
      show wipe ((wipe σ [i]).set i (some v)) [i] = wipe σ [i] ∧ _
      rw [wipe1]
      refine ⟨wipe2 _ _ _, ?_⟩
      unfold tYes
      refine iteT ?_
      refine el n x v H2 hx px _ H' R2 e3 H' (.refl _) _ fun y H4 e4 t4 => ⟨acc, e4 _ _ hacc, hla, ?_⟩
      have nt : ∀ ys, H4 D ≠ some (.tup ys) := fun ys z => by
        rw [e4 _ _ hacc] at z
        cases z
      refine ⟨same_mut (e3.trans e4) hD, acc ++ [y], upd_same, ?_⟩
      have et : (zs.take (n + 1)).map f = (zs.take n).map f ++ [f x] := by
        rw [List.take_add_one, hx, List.map_append]
        rfl
      rw [et]
      exact (TdAll.snoc (tacc.same e4) t4).k (keep_upd nt)
    · rw [lv, List.take_length] at tacc
      exact k D acc H' (e2.free hD) (e2.trans e3) hacc tacc
end
abbrev lvD (z : Int × Bool) : Lv := (some z.1, z.2)
def litD (z : Int × Bool) : PyData := .int z.1
def litV (z : Int × Bool) : V := .int z.1
abbrev lvs0 (ds : List (Int × Bool)) : List Lv := (none, false) :: ds.map lvD
section
variable {P : Program} {w : World} {K : PySem.W.Frag} {mg : Str → Option Value} {base : Heap}
/-- literals() -/
def spTl (K : PySem.W.Frag) : Sp := fun vs H Q _ => ∃ x r l R rows ds dec, vs = [.ref x] ∧ ds.length ≤ 90000 ∧ TrA K H x r l R rows (lvs0 ds) dec ∧
  ∀ p H', H p = none → Same H H' → H' p = some (.lst (ds.map litV)) → Q (.ref p) H'
abbrev NTl : List Str := ["self", "row"]
theorem sc_Tl : FnScope NTl ["self"] (defScope sQTrail_literals) := ⟨rfl, rfl, rfl, by decide +kernel, rfl, by decide +kernel, by decide +kernel⟩
theorem met_Trail_literals (T : Tx K mg base) : Met P w K mg base 1 (He.ga K "Trail") "literals" (spTl K) [] := by
  have sc := sc_Tl
  have C := T.trC
  refine met_of T 50 94 77 rfl rfl rfl sc (fun _ _ _ _ _ _ us hl => match us, hl with | [_], _ => rfl) (fun vs H Q E h => ?_) fun cdv A outer s H vs Q E hr h => ?_
  · obtain ⟨_, _, _, _, _, _, _, rfl, _⟩ := h; rfl
  refine ⟨_, (pss_one (ps_ret (pe_lc (own := [("row", 1)]) rfl sc.nd (pi_list (pe_slice sl_list (pe_fld (pv 0) rfl) (po_some pe_int) po_none)) (blkOk_by (own := [("row", 1)]) (N := NTl) (sc := defScope sQTrail_literals) (by decide +kernel)) (fun _ _ _ _ _ => (pg_name (i := 1) sc.nd rfl (Or.inl rfl))) (fun _ _ _ _ _ => pts_nil) (fun _ _ _ _ _ => (pe_ix (k_ix_tup K rfl) (pv 1) pe_int (fun _ _ => rfl)))))), ?_⟩
  obtain ⟨x, r, l, R, rows, ds, dec, rfl, hd, h, k⟩ := h
  have R0 := rel_start (K := K) (H := H) (N := NTl) (vs := [.ref x]) (as := [.v (.ref x)]) (.cons rfl .nil) (by simp)
  refine s_retL (ds := ds.map litD) R0 (el_mapV (zs := ds) (f := litD) (Pz := fun H v z => LvOk K H r l v (lvD z)) R0 (fun H1 e1 Q' k' => ?_) (Nat.le_trans hd (by decide)) fun n z v H1 hz hv σ2 H2 R2 e2 => ?_) fun p xs H' hp e2 hh ht => ?_
  · have h1 := h.same e1
    obtain ⟨dx, w1, a1, a2⟩ := h1.obj
    obtain ⟨ls, c1, c2⟩ := h1.lv
    cases c2 with
    | cons q0 c2 =>
      rename_i l0 ls
      refine ⟨.ref x, rfl, x, _, dx, _, .ref l, rfl, a1, C.c, C.n3, rfl, 1, rfl, l, _, rfl, .inl (.inl c1), fun p hp => ?_⟩
      have ec : cutV (l0 :: ls) (some 1) none = ls := by
        unfold cutV
        rw [show (some (1 : Int)) = some ((1 : Nat) : Int) from rfl, HT.sIx_nat, HT.sIx_none]
        simp
      rw [ec]
      exact k' p ls _ (same_upd hp) upd_same (paired_imp (fun _ _ z => LvOk.same (same_upd hp) z) (paired_map c2))
  · intro H3 e3 Q3 k3
    obtain ⟨t, q, ns, rfl, t1, t2⟩ := hv.same (e2.trans e3)
    have R3 := R2.same e3
    exact ⟨.ref t, R3.sl 1 _ rfl, t, _, 0, .int z.1, rfl, rfl, t1.sq, rfl, k3 _ H3 (.refl _) (.int _)⟩
  · have : xs = ds.map litV := by
      have := TdAll.ints (ns := ds.map fun z => z.1) (by rw [List.map_map]; exact ht)
      rw [this, List.map_map]
      rfl
    subst this
    exact k p H' hp e2 hh
end
end CW

set_option maxRecDepth 100000
set_option maxHeartbeats 4000000
/-! Trail: tell, back. -/
namespace CW
open PySem PySem.Spec PyProof.Rows L2
open C8 (Cal Met Mak pe_c pe_mk pe_mt pe_mt0)
theorem td_lits {K : PySem.W.Frag} {H : Hp} : ∀ ds : List (Int × Bool), TdAll K H (ds.map litV) (ds.map litD)
  | [] => .nil
  | z :: ds => .cons (.int _) (td_lits ds)
theorem e1_lits {K : PySem.W.Frag} {H : Hp} {σ : L2.St} {i : Nat} {x r l : Addr} {R : Rs} {rows : List (Option Cl)} {ds : List (Int × Bool)} {dec : Int} {E : XK} (h : TrA K H x r l R rows (lvs0 ds) dec) (hd : ds.length ≤ 90000) (hx : σ[i]? = some (some (.ref x))) :
    E1 K (tMeth (He.ga K "Trail") "literals" (spTl K) [] E (tVar i) tNil) σ H (.l (ds.map litD)) := fun H1 e Q k => by
  have h1 := h.same e
  obtain ⟨dx, w1, a1, a2⟩ := h1.obj
  exact ⟨.ref x, hx, x, dx, _, rfl, a1, rfl, x, r, l, R, rows, ds, dec, rfl, hd, h1, fun p H' hp e2 hh => k _ H' e2 ⟨p, _, rfl, .inl (.inl hh), td_lits ds⟩⟩
theorem paired_unsnoc {α β : Type} {P : α → β → Prop} {y : β} : ∀ {xs : List α} {ys : List β}, Paired P xs (ys ++ [y]) → ∃ xs' x, xs = xs' ++ [x] ∧ Paired P xs' ys ∧ P x y
  | _, [], .cons h .nil => ⟨[], _, rfl, .nil, h⟩
  | _, _ :: ys, .cons h t => by
    obtain ⟨xs', x, rfl, h1, h2⟩ := paired_unsnoc (ys := ys) t
    exact ⟨_ :: xs', x, rfl, .cons h h1, h2⟩
section
variable {P : Program} {w : World} {K : PySem.W.Frag} {mg : Str → Option Value} {base : Heap}
/-- tell() -/
def spTt (K : PySem.W.Frag) : Sp := fun vs H Q _ => ∃ x r l R rows ds dec, vs = [.ref x] ∧ ds.length ≤ 800 ∧ rows.length ≤ 90000 ∧ TrA K H x r l R rows (lvs0 ds) dec ∧
  ∀ H' c, Same (off [r] H) H' → TrA K H' x r l R (rows ++ [c]) (lvs0 ds) dec → Q .non H'
abbrev NTt : List Str := ["self", "literal"]
theorem sc_Tt : FnScope NTt ["self"] (defScope sQTrail_tell) := ⟨rfl, rfl, rfl, by decide +kernel, rfl, by decide +kernel, by decide +kernel⟩
theorem met_Trail_tell (T : Tx K mg base) : Met P w K mg base 5 (He.ga K "Trail") "tell" (spTt K) [] := by
  have sc := sc_Tt
  have C := T.trC
  refine met_of T 51 95 77 rfl rfl rfl sc (fun _ _ _ _ _ _ us hl => match us, hl with | [_], _ => rfl) (fun vs H Q E h => ?_) fun cdv A outer s H vs Q E hr h => ?_
  · obtain ⟨_, _, _, _, _, _, _, rfl, _⟩ := h; rfl
  refine ⟨_, (pss_one (ps_expr (pe_bm PySem.F.plainAttrs_list PySem.F.slot_list_append PySem.F.type_list_append mt_append (pe_fld (pv 0) rfl) (pa_cons (pe_c (cal_clause_of T) hr (by decide) rfl (pa_cons (pe_lc (own := [("literal", 1)]) rfl sc.nd (pi_list (pe_mt0 (met_Trail_literals T) hr (by decide) (pv 0))) (blkOk_by (own := [("literal", 1)]) (N := NTt) (sc := defScope sQTrail_tell) (by decide +kernel)) (fun _ _ _ _ _ => (pg_name (i := 1) sc.nd rfl (Or.inl rfl))) (fun _ _ _ _ _ => pts_nil) (fun _ _ _ _ _ => (pe_un un_neg (pv 1)))) pa_nil)) pa_nil)))), ?_⟩
  obtain ⟨x, r, l, R, rows, ds, dec, rfl, hd, hrw, h, k⟩ := h
  have R0 := rel_off [r] (K := K) (H := H) (N := NTt) (vs := [.ref x]) (as := [.v (.ref x)]) (.cons rfl .nil) (by simp) (by simp)
  obtain ⟨dx, w1, a1, a2⟩ := h.obj
  obtain ⟨rs, b1, b2⟩ := h.rw_
  have lr : rs.length = rows.length := by rw [b2.length, List.length_map]
  refine ⟨.ref x, rfl, x, _, dx, _, .ref r, rfl, a1, C.c, C.n2, rfl, .inl ⟨rfl, _, SqL.of b1⟩, ?_⟩
  refine et_call (P := Pclause_of) (d := oC (clauseOf (ds.map fun z => -z.1))) (ea_cons (EL.e1 (el_mapL (xs := ds) (enc := litD) (f := fun z => .int (-z.1)) R0 (e1_lits h (Nat.le_trans hd (by decide)) rfl) (Nat.le_trans hd (by decide)) fun n z hz σ2 H2 R2 e2 => et_neg (n := z.1) (et_v R2 rfl))) ea_nil) ⟨ds.map fun z => -z.1, by rw [List.map_map]; rfl, by rw [List.length_map]; omega, rfl⟩ H (.refl H) _ fun v H2 e2 t2 => ⟨r, rs, v, rfl, rfl, e2 _ _ b1, by rw [lr]; exact Nat.lt_of_le_of_lt hrw (by decide), ?_⟩
  refine k _ (clauseOf (ds.map fun z => -z.1)) (same_mut (off_same.trans e2) (off_in (by simp))) ((h.same e2).rowd ?_)
  rw [List.map_append]
  exact TdAll.snoc (b2.same e2) t2
theorem et_levlen {K : PySem.W.Frag} {H : Hp} {σ : L2.St} {i : Nat} {x r l : Addr} {R : Rs} {rows : List (Option Cl)} {lvs : List Lv} {dec : Int} (C : TrC K) (h : TrA K H x r l R rows lvs dec) (hx : σ[i]? = some (some (.ref x))) :
    ET K (tCB (fun xs H Q => ∃ p ys, xs = [.ref p] ∧ (SqL K H p ys ∨ SqT K H p ys) ∧ Q (.int ys.length) H) (tCons (tFld K (tVar i) "levels") tNil)) σ H (.int lvs.length) := fun H1 e Q k => by
  have h1 := h.same e
  obtain ⟨dx, w1, a1, a2⟩ := h1.obj
  obtain ⟨ls, c1, c2⟩ := h1.lv
  refine ⟨.ref x, hx, x, _, dx, _, .ref l, rfl, a1, C.c, C.n3, rfl, l, ls, rfl, .inl (SqL.of c1), ?_⟩
  rw [Paired.length c2]
  exact k _ H1 (.refl _) (.int _)
/-- back() -/
def spTb (K : PySem.W.Frag) : Sp := fun vs H Q _ => ∃ x r l R rows ds dec, vs = [.ref x] ∧ ds.length ≤ 800 ∧ rows.length + ds.length + 1 ≤ 90000 ∧ TrA K H x r l R rows (lvs0 ds) dec ∧
  (∀ H' pre n suf rows', ds = pre ++ (n, false) :: suf → (∀ z ∈ suf, z.2 = true) → Same (off [r, l] H) H' → TrA K H' x r l R rows' (lvs0 pre) dec → rows'.length ≤ rows.length + ds.length + 1 → Q (.int n) H') ∧
  (∀ H' rows', (∀ z ∈ ds, z.2 = true) → Same (off [r, l] H) H' → TrA K H' x r l R rows' (lvs0 []) dec → rows'.length ≤ rows.length + ds.length + 1 → Q .non H')
theorem off_off {F G : List Addr} {H H1 : Hp} (h : Same (off F H) H1) (hs : ∀ a ∈ F, a ∈ G) {H2 : Hp} {F2 : List Addr} (h2 : Same (off F2 H1) H2) (hs2 : ∀ a ∈ F2, a ∈ G) : Same (off G H) H2 := fun a o e => by
  unfold off at e
  split at e
  · cases e
  · rename_i ng
    refine h2 a o ?_
    rw [off_out fun q => ng (hs2 a q)]
    refine h a o ?_
    rw [off_out fun q => ng (hs a q)]
    exact e
abbrev NTb : List Str := ["self", "literal", "second", "found"]
theorem sc_Tb : FnScope NTb ["self"] (defScope sQTrail_back) := ⟨rfl, rfl, rfl, by decide +kernel, rfl, by decide +kernel, by decide +kernel⟩
theorem met_Trail_back (T : Tx K mg base) : Met P w K mg base 6 (He.ga K "Trail") "back" (spTb K) [] := by
  have sc := sc_Tb
  have C := T.trC
  refine met_of T 52 96 77 rfl rfl rfl sc (fun _ _ _ _ _ _ us hl => match us, hl with | [_], _ => rfl) (fun vs H Q E h => ?_) fun cdv A outer s H vs Q E hr h => ?_
  · obtain ⟨_, _, _, _, _, _, _, rfl, _⟩ := h; rfl
  refine ⟨_, (pss_cons (ps_expr (pe_mt0 (met_Trail_tell T) hr (by decide) (pv 0)))
    (pss_cons (ps_while PassesOwn.never (pt_cmpR op_gt (pe_callB call_len_seq (by rfl) T.f_len (by decide +kernel) (pa_cons (pe_fld (pv 0) rfl) pa_nil)) pe_int (nomark _))
      (pss_cons (ps_asg (pe_bm0 PySem.F.plainAttrs_list PySem.F.slot_list_pop PySem.F.type_list_pop mt_pop (pe_fld (pv 0) rfl)) (pg_tup rfl (pgs_cons (pg_name (i := 1) sc.nd rfl (by first | exact Or.inl rfl | exact Or.inr rfl)) (pgs_cons (pg_name (i := 2) sc.nd rfl (by first | exact Or.inl rfl | exact Or.inr rfl)) (pgs_cons (pg_name (i := 3) sc.nd rfl (by first | exact Or.inl rfl | exact Or.inr rfl)) pgs_nil)))))
      (pss_cons (ps_if (pt_not (pt_val (pv 2)))
        (pss_one (ps_ret (pv 1)))
        pss_nil)
      (pss_one (ps_expr (pe_mt0 (met_Trail_tell T) hr (by decide) (pv 0)))))))
    (pss_one (ps_ret pe_non)))), ?_⟩
  obtain ⟨x, r, l, R, rows, ds, dec, rfl, hd, hrw, h, k1, k2⟩ := h
  obtain ⟨dx, w1, a1, a2⟩ := h.obj
  refine sq ⟨.ref x, rfl, x, dx, _, rfl, a1, rfl, x, r, l, R, rows, ds, dec, rfl, hd, by omega, h, fun H1 c e1 h1 => ?_⟩
  refine sq (s_while (ι := List (Int × Bool)) (fun z _ σ' H' => σ'.length = 4 ∧ σ'[0]? = some (some (.ref x)) ∧ Same (off [r, l] H) H' ∧ ∃ suf rows', ds = z ++ suf ∧ (∀ y ∈ suf, y.2 = true) ∧ TrA K H' x r l R rows' (lvs0 z) dec ∧ rows'.length + z.length ≤ rows.length + ds.length + 1) (fun z => z.length) (z0 := ds) ⟨rfl, rfl, off_off e1 (by simp) (F2 := []) (fun a o q => by unfold off at q; simpa using q) (by simp), [], rows ++ [c], by simp, by simp, h1, by simp; omega⟩ fun z σ2 H2 ⟨ln, x2, e2, suf, rows', hds, hsuf, h2, hl2⟩ => ?_)
  refine ⟨_, eb_B (K := K) (et_ib (et_levlen C h2 x2) et_int), fun hb H3 e3 => ?_, fun hb H3 e3 => ?_⟩
  · have hz : z ≠ [] := fun q => by subst q; simp at hb
    obtain ⟨pre, ⟨n, b⟩, rfl⟩ : ∃ pre y, z = pre ++ [y] := ⟨z.dropLast, z.getLast hz, (List.dropLast_concat_getLast hz).symm⟩
    have h3 := h2.same e3
    obtain ⟨dx3, w3, a31, a32⟩ := h3.obj
    obtain ⟨ls, c1, c2⟩ := h3.lv
    rw [show lvs0 (pre ++ [(n, b)]) = lvs0 pre ++ [lvD (n, b)] from by simp [lvs0]] at c2
    obtain ⟨ls', v, rfl, c3, t, q, ns, rfl, t1, t2⟩ := paired_unsnoc c2
    have h4 := h3.levs c3
    have ntl : ∀ xs, H3 l ≠ some (.tup xs) := fun xs e => by rw [c1] at e; cases e
    have e4 : Same (off [r, l] H) (upd H3 l (.lst ls')) := same_mut (e2.trans e3) (off_in (by simp))
    have hdl : (ls' ++ [V.ref t]).dropLast = ls' := by simp
    refine sq ⟨.ref x, x2, x, _, dx3, _, .ref l, rfl, a31, C.c, C.n3, rfl, .inl ⟨rfl, _, SqL.of c1⟩, l, ls' ++ [.ref t], .ref t, rfl, rfl, c1, by simp, t, _, rfl, (t1.keep (keep_upd ntl)).sq, rfl, .int n, _, rfl, .bl b, _, rfl, .ref q, _, rfl, rfl, ?_⟩
    rw [hdl]
    have g0 : (((σ2.set 1 (some (.int n))).set 2 (some (.bl b))).set 3 (some (.ref q)))[0]? = some (some (.ref x)) := by
      rw [List.getElem?_set_ne (by decide), List.getElem?_set_ne (by decide), List.getElem?_set_ne (by decide)]
      exact x2
    have g1 : (((σ2.set 1 (some (.int n))).set 2 (some (.bl b))).set 3 (some (.ref q)))[1]? = some (some (.int n)) := by
      rw [List.getElem?_set_ne (by decide), List.getElem?_set_ne (by decide), List.getElem?_set_self (by omega)]
    have g2 : (((σ2.set 1 (some (.int n))).set 2 (some (.bl b))).set 3 (some (.ref q)))[2]? = some (some (.bl b)) := by
      rw [List.getElem?_set_ne (by decide), List.getElem?_set_self (by rw [List.length_set]; omega)]
    have g3 : (((σ2.set 1 (some (.int n))).set 2 (some (.bl b))).set 3 (some (.ref q))).length = 4 := by
      rw [List.length_set, List.length_set, List.length_set]
      exact ln
    have eb : EB (tNot (tB (tVar 2))) (((σ2.set 1 (some (.int n))).set 2 (some (.bl b))).set 3 (some (.ref q))) (upd H3 l (.lst ls')) (!b) := eb_not (eb_B (K := K) (fun H5 e5 Q5 k5 => ⟨.bl b, g2, k5 _ H5 (.refl _) (.bl b)⟩ : ET K (tVar 2) _ _ (.bool b)))
    refine sq (s_if eb (fun hb5 H5 e5 => ?_) fun hb5 H5 e5 => ?_)
    · obtain rfl : b = false := by simpa using hb5
      exact ⟨_, g1, k1 H5 pre n suf rows' (by rw [hds]; simp) hsuf (e4.trans e5) (h4.same e5) (by simp at hl2; omega)⟩
    · obtain rfl : b = true := by simpa using hb5
      have h5 := h4.same e5
      obtain ⟨dx5, w5, a51, a52⟩ := h5.obj
      have lp : pre.length ≤ ds.length := by rw [hds]; simp
      refine ⟨.ref x, g0, x, dx5, _, rfl, a51, rfl, x, r, l, R, rows', pre, dec, rfl, by omega, by simp at hl2; omega, h5, fun H6 c6 e6 h6 => ⟨pre, by simp, g3, g0, ?_, (n, true) :: suf, rows' ++ [c6], by rw [hds]; simp, ?_, h6, by simp at hl2 ⊢; omega⟩⟩
      · exact off_off (e4.trans e5) (fun _ h => h) e6 (by simp)
      · intro y hy
        rcases List.mem_cons.mp hy with rfl | hy
        · rfl
        · exact hsuf y hy
  · have hz : z = [] := by
      cases z with
      | nil => rfl
      | cons y z => simp at hb; omega
    subst hz
    exact k2 H3 rows' (by rw [hds]; exact hsuf) (e2.trans e3) (h2.same e3) (by simp at hl2; exact hl2)
end
end CW

set_option maxRecDepth 100000
set_option maxHeartbeats 4000000
/-! Trail: again. -/
namespace CW
open PySem PySem.Spec PyProof.Rows L2
open C8 (Cal Met Mak pe_c pe_mk pe_mt pe_mt0)
def leftOf (R : Rs) (ds : List (Int × Bool)) : Rs := ds.foldl (fun L z => (prop (under L z.1)).1) (prop R).1
theorem leftOf_snoc (R : Rs) (ds : List (Int × Bool)) (z : Int × Bool) : leftOf R (ds ++ [z]) = (prop (under (leftOf R ds) z.1)).1 := by
  unfold leftOf
  rw [List.foldl_append]
  rfl
theorem leftOf_okF : ∀ (ds : List (Int × Bool)) {L : Rs}, RsOk L → RsOk (ds.foldl (fun L z => (prop (under L z.1)).1) L)
  | [], _, h => h
  | z :: ds, _, h => leftOf_okF ds (prop_ok (under_ok z.1 h))
theorem leftOf_ok {R : Rs} (h : RsOk R) (ds : List (Int × Bool)) : RsOk (leftOf R ds) := leftOf_okF ds (prop_ok h)
section
variable {P : Program} {w : World} {K : PySem.W.Frag} {mg : Str → Option Value} {base : Heap}
/-- again() -/
def spTa (K : PySem.W.Frag) : Sp := fun vs H Q _ => ∃ x r l R rows ds dec, vs = [.ref x] ∧ RsOk R ∧ ds.length ≤ 90000 ∧ TrA K H x r l R rows (lvs0 ds) dec ∧
  ∀ v H', Same H H' → Td K H' v (dR (leftOf R ds)) → Q v H'
abbrev NTa : List Str := ["self", "left", "literal"]
theorem sc_Ta : FnScope NTa ["self"] (defScope sQTrail_again) := ⟨rfl, rfl, rfl, by decide +kernel, rfl, by decide +kernel, by decide +kernel⟩
theorem met_Trail_again (T : Tx K mg base) : Met P w K mg base 8 (He.ga K "Trail") "again" (spTa K) [] := by
  have sc := sc_Ta
  have C := T.trC
  refine met_of T 53 97 77 rfl rfl rfl sc (fun _ _ _ _ _ _ us hl => match us, hl with | [_], _ => rfl) (fun vs H Q E h => ?_) fun cdv A outer s H vs Q E hr h => ?_
  · obtain ⟨_, _, _, _, _, _, _, rfl, _⟩ := h; rfl
  refine ⟨_, (pss_cons (ps_set (i := 1) sc.nd rfl (by first | exact Or.inl rfl | exact Or.inr rfl) (pe_ix ix_tup (pe_c (cal_propagate T) hr (by decide) rfl (pa_cons (pe_fld (pv 0) rfl) (pa_cons (pe_lst pa_nil) pa_nil))) pe_int (fun _ _ => rfl)))
    (pss_cons (ps_for PassesOwn.never rfl (pi_list (pe_mt0 (met_Trail_literals T) hr (by decide) (pv 0))) (pg_name (i := 2) sc.nd rfl (by first | exact Or.inl rfl | exact Or.inr rfl))
      (pss_one (ps_set (i := 1) sc.nd rfl (by first | exact Or.inl rfl | exact Or.inr rfl) (pe_ix ix_tup (pe_c (cal_propagate T) hr (by decide) rfl (pa_cons (pe_c (cal_under T) hr (by decide) rfl (pa_cons (pv 1) (pa_cons (pv 2) pa_nil))) (pa_cons (pe_lst pa_nil) pa_nil))) pe_int (fun _ _ => rfl)))))
    (pss_one (ps_ret (pv 1))))), ?_⟩
  obtain ⟨x, r, l, R, rows, ds, dec, rfl, hR, hd, h, k⟩ := h
  have R0 := rel_start (K := K) (H := H) (N := NTa) (vs := [.ref x]) (as := [.v (.ref x)]) (.cons rfl .nil) (by simp)
  refine sq (s_set (d := dR (prop R).1) R0 (et_ex0 (ex_propagate (ea_t (et_first C h rfl) (ea_cons (EL.e1 (ds := []) el_nil) ea_nil)) (ls := []) hR.1 (Nat.le_trans hR.2.1 (by decide)))) fun σ2 H2 e2 R2 => ?_)
  have x2 : σ2[0]? = some (some (.ref x)) := R2.sl 0 _ rfl
  refine sq (s_forLG (xs := ds) (enc := litD) (e1_lits (h.same e2) hd x2) fun H3 a vs e3 hs ht => ⟨fun n σ' H' => Rel K H H3 H' σ' [.v (.ref x), .t (dR (leftOf R (ds.take n))), .any] ∧ Same H3 H', ⟨((R2.same e3).rebase.forget 2).eq ?_, .refl _⟩, fun n σ' H' hw => ⟨hw.1.keep, Same.seq hw.2 hs⟩, fun n z v σ' H' hz hw hv => ?_, fun σ' H' hw => ?_⟩)
  · simp [slots, slOf, leftOf]
  · refine g_name (d := litD z) hw.1 hv fun σ4 R4 => ?_
    have hL := leftOf_ok hR (ds.take n)
    refine s_set R4 (et_ex0 (ex_propagate (R := under (leftOf R (ds.take n)) z.1) (ea_t (et_call (ea_t (et_v R4 rfl) (ea_t (d := .int z.1) (et_v R4 rfl) ea_nil)) ⟨leftOf R (ds.take n), z.1, rfl, hL.1, rfl⟩) (ea_cons (EL.e1 (ds := []) el_nil) ea_nil)) (ls := []) (under_ok z.1 hL).1 (Nat.le_trans (under_ok z.1 hL).2.1 (by decide)))) fun σ5 H5 e5 R5 => ⟨(R5.forget 2).eq ?_, hw.2.trans e5⟩
    rw [List.take_add_one, hz, show (some z).toList = [z] from rfl, leftOf_snoc]
    rfl
  · dsimp only at hw
    rw [List.take_length] at hw
    exact s_retT hw.1 (et_v hw.1 rfl) k
end
end CW

set_option maxRecDepth 100000
set_option maxHeartbeats 4000000
/-! Trail: filling. -/
namespace CW
open PySem PySem.Spec PyProof.Rows L2
open C8 (Cal Met Mak pe_c pe_mk pe_mt pe_mt0)
def IntV (kvs : KD) : Prop := ∀ kv ∈ kvs, ∃ n : Int, kv.2 = .int n
theorem intV_put {kvs : KD} (h : IntV kvs) (k : Key) (n : Int) : IntV (dput kvs k (.int n)) := by
  intro p hp
  unfold dput at hp
  split at hp
  · obtain ⟨q, hq, rfl⟩ := List.mem_map.mp hp
    show ∃ n_1 : Int, (if q.1 = k then (q.1, PyData.int n) else q).2 = .int n_1
    split
    · exact ⟨n, rfl⟩
    · exact h q hq
  · rcases List.mem_append.mp hp with hp | hp
    · exact h p hp
    · rw [List.mem_singleton.mp hp]
      exact ⟨n, rfl⟩
section
variable {K : PySem.W.Frag} {H0 Hk H : Hp} {σ : L2.St} {p q : Addr} {kvs : KD} {x : Addr} {D : Ends} {ns : List Int} {ty : TE} {s2 s3 s5 s6 : Sl}
theorem s_putAll {m : Nat} (R : Rel K H0 Hk H σ [.v (.ref x), Sl.w p (.dk kvs), .any, .any, .v (.ref q), .any, .any]) (hq : H0 q = some (.lst (ns.map V.int))) (hk : IntV kvs) (hm : kvs.length + ns.length ≤ m) (hm2 : m ≤ 100000)
    (hy : ∀ σ' H' n, σ'[5]? = some (some (.int n)) → ET K ty σ' H' (.int (iabs n)))
    (k : ∀ σ' H' kvs', Rel K H0 Hk H' σ' [.v (.ref x), Sl.w p (.dk kvs'), .any, .any, .v (.ref q), .any, .any] → IntV kvs' → kvs'.length ≤ m → D.nx σ' H') : tFor (iList K (tVar 4)) (gName 5) (sDPut (tVar 1) ty (tVar 5)) D σ H := by
  refine ⟨.ref q, R.sl 4 _ rfl, q, rfl, ⟨_, .inl (.inl (R.base _ _ hq))⟩, for_list (K := K) (a := q) (xs := ns.map V.int) (fun n σ' H' => ∃ kvs', Rel K H0 H H' σ' [.v (.ref x), Sl.w p (.dk kvs'), .any, .any, .v (.ref q), .any, .any] ∧ IntV kvs' ∧ kvs'.length ≤ kvs.length + n) ⟨kvs, R.rebase, hk, Nat.le_refl _⟩ (fun n σ' H' _ hw => ?_) (fun n v σ' H' hn hw => ?_) fun σ' H' hw => ?_⟩
  · obtain ⟨kvs', R2, _⟩ := hw
    exact .inl (.inl (R2.base _ _ hq))
  · obtain ⟨kvs', R2, h2, h3⟩ := hw
    rw [List.getElem?_map] at hn
    obtain ⟨i, hi, rfl⟩ : ∃ i, ns[n]? = some i ∧ V.int i = v := by
      cases e : ns[n]? with
      | none => rw [e] at hn; cases hn
      | some i => rw [e] at hn; exact ⟨i, rfl, Option.some.inj hn⟩
    have hn2 := (List.getElem?_eq_some_iff.mp hi).1
    have R3 := R2.set_t 5 (Td.int (K := K) (H := H') i)
    refine s_dput (d := .int i) (n := iabs i) R3 rfl (et_v R3 rfl) (fun H5 R5 e5 => hy _ _ i ?_) (by omega) fun H5 R5 => ⟨dput kvs' (.inl (iabs i)) (.int i), (R5.forget 5).eq rfl, intV_put h2 _ _, ?_⟩
    · obtain ⟨u, u1, u2⟩ := R5.sl 5 _ rfl
      cases u2
      exact u1
    · have := dput_len kvs' (.inl (iabs i)) (.int i)
      omega
  · obtain ⟨kvs', R2, h2, h3⟩ := hw
    rw [List.length_map] at h3
    exact k σ' H' kvs' (R.back R2) h2 (by omega)
end
section
variable {P : Program} {w : World} {K : PySem.W.Frag} {mg : Str → Option Value} {base : Heap}
/-- filling() -/
def spTf (K : PySem.W.Frag) : Sp := fun vs H Q _ => ∃ x r l R rows ds dec, vs = [.ref x] ∧ RsOk R ∧ ds.length ≤ 800 ∧ TrA K H x r l R rows (lvs0 ds) dec ∧
  ∀ v H' fs, Same H H' → (∀ d ∈ fs, ∃ n : Int, d = .int n) → Td K H' v (.tuple fs) → Q v H'
abbrev NTf : List Str := ["self", "held", "literal", "second", "found", "other", "v"]
theorem sc_Tf : FnScope NTf ["self"] (defScope sQTrail_filling) := ⟨rfl, rfl, rfl, by decide +kernel, rfl, by decide +kernel, by decide +kernel⟩
theorem met_Trail_filling (T : Tx K mg base) : Met P w K mg base 2 (He.ga K "Trail") "filling" (spTf K) [] := by
  have sc := sc_Tf
  have C := T.trC
  refine met_of T 54 98 77 rfl rfl rfl sc (fun _ _ _ _ _ _ us hl => match us, hl with | [_], _ => rfl) (fun vs H Q E h => ?_) fun cdv A outer s H vs Q E hr h => ?_
  · obtain ⟨_, _, _, _, _, _, _, rfl, _⟩ := h; rfl
  refine ⟨_, (pss_cons (ps_set (i := 1) sc.nd rfl (by first | exact Or.inl rfl | exact Or.inr rfl) pe_dnewK)
    (pss_cons (ps_for PassesOwn.never rfl (pi_list (pe_fld (pv 0) rfl)) (pg_tup rfl (pgs_cons (pg_name (i := 2) sc.nd rfl (by first | exact Or.inl rfl | exact Or.inr rfl)) (pgs_cons (pg_name (i := 3) sc.nd rfl (by first | exact Or.inl rfl | exact Or.inr rfl)) (pgs_cons (pg_name (i := 4) sc.nd rfl (by first | exact Or.inl rfl | exact Or.inr rfl)) pgs_nil))))
      (pss_cons (ps_if (pt_cmp (pc_notN (pv 2)))
        (pss_one (ps_dput (hu_of hr) (pv 1) (pe_callB call_abs (by rfl) T.f_abs (by decide +kernel) (pa_cons (pv 2) pa_nil)) (pv 2) rfl))
        pss_nil)
      (pss_one (ps_for PassesOwn.never rfl (pi_list (pv 4)) (pg_name (i := 5) sc.nd rfl (by first | exact Or.inl rfl | exact Or.inr rfl))
        (pss_one (ps_dput (hu_of hr) (pv 1) (pe_callB call_abs (by rfl) T.f_abs (by decide +kernel) (pa_cons (pv 5) pa_nil)) (pv 5) rfl))))))
    (pss_one (ps_ret (pe_callTy call_tuple_of (by rfl) T.f_tuple (by decide +kernel) (pa_cons (pe_lc (own := [("v", 6)]) rfl sc.nd (pi_tup (pe_c (cal_variables_of T) hr (by decide) rfl (pa_cons (pe_fld (pv 0) rfl) pa_nil))) (blkOk_by (own := [("v", 6)]) (N := NTf) (sc := defScope sQTrail_filling) (by decide +kernel)) (fun _ _ _ _ _ => (pg_name (i := 6) sc.nd rfl (Or.inl rfl))) (fun _ _ _ _ _ => pts_nil) (fun _ _ _ _ _ => (pe_dget2 (hu_of hr) (pv 1) (pv 6) (pe_un un_neg (pv 6)) ⟨rfl, rfl, rfl, rfl⟩))) pa_nil)))))), ?_⟩
  obtain ⟨x, r, l, R, rows, ds, dec, rfl, hR, hd, h, k⟩ := h
  have R0 := rel_start (K := K) (H := H) (N := NTf) (vs := [.ref x]) (as := [.v (.ref x)]) (.cons rfl .nil) (by simp)
  refine sq (s_setW R0 ew_nil fun p σ1 H1 e1 R1 => ?_)
  have h1 := h.same e1
  have x1 : σ1[0]? = some (some (.ref x)) := R1.sl 0 _ rfl
  obtain ⟨dx, w1, a1, a2⟩ := h1.obj
  obtain ⟨ls, c0, c2⟩ := h.lv
  have c1 := e1 _ _ c0
  have ll : ls.length = ds.length + 1 := by rw [Paired.length c2]; simp
  have pn : H p = none := (R1.sl 1 _ rfl).2.1
  refine sq ⟨.ref x, x1, x, _, dx, _, .ref l, rfl, a1, C.c, C.n3, rfl, l, rfl, ⟨ls, .inl (.inl c1)⟩, for_list (K := K) (a := l) (xs := ls) (fun n σ' H' => ∃ kvs, Rel K H H1 H' σ' [.v (.ref x), Sl.w p (.dk kvs), .any, .any, .any, .any, .any] ∧ IntV kvs ∧ kvs.length ≤ n * 65) ⟨[], R1.rebase.eq rfl, (fun _ q => by cases q), Nat.zero_le _⟩ (fun n σ' H' _ hw => ?_) (fun n v σ' H' hn hw => ?_) fun σ' H' hw => ?_⟩
  · obtain ⟨kvs, R2, _⟩ := hw
    exact .inl (.inl (R2.base _ _ c0))
  · obtain ⟨kvs, R2, hk, hkl⟩ := hw
    obtain ⟨y, hy, hv⟩ := paired_get c2 hn
    have hn2 : n ≤ ds.length := by
      have := (List.getElem?_eq_some_iff.mp hn).1
      omega
    obtain ⟨t, q, ns, rfl, t0, t2, _, _, t3⟩ := hv
    have t1 := t0.keep (keep_same R2.base)
    refine ⟨t, _, rfl, t1.sq, rfl, oV y.1, _, rfl, .bl y.2, _, rfl, .ref q, _, rfl, rfl, ?_⟩
    have tail : ∀ σ3 H3 kvs3, Rel K H H1 H3 σ3 [.v (.ref x), Sl.w p (.dk kvs3), .any, .any, .v (.ref q), .any, .any] → IntV kvs3 → kvs3.length ≤ n * 65 + 1 → True := fun _ _ _ _ _ _ => trivial
    obtain ⟨y1, b⟩ := y
    cases y1 with
    | none =>
      have R3 := ((R2.set_v 2 .non).set_v 3 (.bl b)).set_v 4 (.ref q)
      refine sq (s_if (b := false) (fun H5 e5 Q5 k5 => ?_) (fun hb => by cases hb) fun _ H5 e5 => ?_)
      · exact ⟨.non, R3.sl 2 _ rfl, false, rfl, k5 H5 (.refl _)⟩
      · refine s_putAll (m := n * 65 + 64) ((((R3.same e5).forget 2).forget 3).eq rfl) (q := q) (ns := ns) ?_ hk (by omega) (by omega) (fun σ6 H6 i h6 => et_abs fun H7 e7 Q7 k7 => ⟨_, h6, k7 _ H7 (.refl _) (.int i)⟩) fun σ6 H6 kvs6 R6 h6 h7 => ⟨kvs6, (R6.forget 4).eq rfl, h6, by omega⟩
        exact t2
    | some i =>
      have R3 := ((R2.set_t 2 (Td.int i)).set_v 3 (.bl b)).set_v 4 (.ref q)
      refine sq (s_if (b := true) (fun H5 e5 Q5 k5 => ?_) (fun _ H5 e5 => ?_) fun hb => by cases hb)
      · exact ⟨.int i, (by obtain ⟨u, u1, u2⟩ := R3.sl 2 _ rfl; cases u2; exact u1), true, rfl, k5 H5 (.refl _)⟩
      · refine s_dput (d := .int i) (n := iabs i) (R3.same e5) rfl (et_v (R3.same e5) rfl) (fun H6 R6 e6 => et_abs (et_v R6 rfl)) (by omega) fun H6 R6 => ?_
        refine s_putAll (m := n * 65 + 65) (((R6.forget 2).forget 3).eq rfl) (q := q) (ns := ns) ?_ (intV_put hk _ _) (by have := dput_len kvs (.inl (iabs i)) (.int i); omega) (by omega) (fun σ6 H6 i h6 => et_abs fun H7 e7 Q7 k7 => ⟨_, h6, k7 _ H7 (.refl _) (.int i)⟩) fun σ6 H6 kvs6 R6 h6 h7 => ⟨kvs6, (R6.forget 4).eq rfl, h6, by omega⟩
        exact t2
  · obtain ⟨kvs, R2, hk, hkl⟩ := hw
    have h2 := h.same R2.base
    have hb : kvs.length ≤ 100000 := by omega
    let f : Int → PyData := fun v => match dval kvs (.inl v) with
      | some d => d
      | none => .int (-v)
    refine s_retT (d := .tuple ((varsOf R).map f)) R2 (et_tupleL (EL.e1 (el_mapT (xs := varsOf R) (enc := .int) (f := f) R2 (et_call (ea_t (et_first C h2 (R2.sl 0 _ rfl)) ea_nil) ⟨R, rfl, Nat.le_trans hR.2.1 (by decide), hR.2.2, rfl⟩) (by have := hR.2.2; omega) fun n v hv σ5 H5 R5 e5 => ?_))) fun v H5 e5 t5 => k v H5 _ e5 (fun d hd => ?_) t5
    · intro H6 e6 Q6 k6
      refine (dk_w R5 (i := 1) rfl).run H6 e6 _ fun p' ws hw hD => ⟨p', rfl, .inl ⟨ws, hw⟩, (et_v R5 (i := 6) rfl) H6 e6 _ fun y H7 e7 ty => (et_neg (n := v) (et_v R5 (i := 6) rfl)) H7 (e6.trans e7) _ fun z H8 e8 tz => ⟨valV ws (.inl v), .inl ⟨ws, .inl v, Rd.sm (e7.trans e8) hw, ty.i, rfl⟩, ?_⟩⟩
      obtain ⟨g1, g2⟩ := dk_val (k := .inl v) (hD.k (keep_same (e7.trans e8)))
      refine k6 _ H8 (e7.trans e8) ?_
      show Td K H8 _ (match dval kvs (.inl v) with | some d => d | none => .int (-v))
      cases q : dval kvs (.inl v) with
      | none => rw [g2 q]; exact tz
      | some d => obtain ⟨u, u1, u2⟩ := g1 d q; rw [u1]; exact u2
    · obtain ⟨v, _, rfl⟩ := List.mem_map.mp hd
      dsimp only [f]
      cases q : dval kvs (.inl v) with
      | none => exact ⟨_, rfl⟩
      | some d =>
        unfold dval at q
        cases q2 : kvs.find? (fun kv => decide (kv.1 = (.inl v : Key))) with
        | none => rw [q2] at q; cases q
        | some kv =>
          rw [q2] at q
          obtain ⟨n, e⟩ := hk kv (List.mem_of_find?_eq_some q2)
          cases q
          exact ⟨n, e⟩
end
end CW

/-! Plain: what keeps a residue. -/
namespace CW
open PySem
def litT (a : Int → Bool) (l : Int) : Bool := if l < 0 then !a (-l) else a l
def satC (a : Int → Bool) (c : Cl) : Bool := c.any (litT a)
def satR (a : Int → Bool) (R : Rs) : Bool := R.all (satC a)
theorem litT_neg {a : Int → Bool} {l : Int} (h : l ≠ 0) : litT a (-l) = !litT a l := by
  unfold litT
  by_cases q : l < 0
  · rw [if_neg (by omega), if_pos q, Bool.not_not]
  · rw [if_pos (by omega), if_neg q, Int.neg_neg]
theorem satR_iff {a : Int → Bool} {R : Rs} : satR a R = true ↔ ∀ c ∈ R, ∃ l ∈ c, litT a l = true := by
  unfold satR satC
  rw [List.all_eq_true]
  exact forall₂_congr fun c _ => List.any_eq_true
theorem sat_under {a : Int → Bool} {R : Rs} {l : Int} (h0 : l ≠ 0) (h : litT a l = true) : satR a (under R l) = satR a R := by
  rw [Bool.eq_iff_iff, satR_iff, satR_iff]
  refine ⟨fun q c hc => ?_, fun q c' hc' => ?_⟩
  · cases e : undC l c with
    | none =>
      refine ⟨l, ?_, h⟩
      unfold undC at e
      split at e
      · rename_i m; simpa using m
      · cases e
    | some c' =>
      obtain ⟨z, hz, hz2⟩ := q c' (mem_under.mpr ⟨c, hc, e⟩)
      exact ⟨z, ((mem_undC e).mp hz).1, hz2⟩
  · obtain ⟨c, hc, e⟩ := mem_under.mp hc'
    obtain ⟨z, hz, hz2⟩ := q c hc
    refine ⟨z, (mem_undC e).mpr ⟨hz, fun e2 => ?_⟩, hz2⟩
    rw [e2, litT_neg h0, h] at hz2
    cases hz2
def NZ (R : Rs) : Prop := ∀ c ∈ R, ∀ l ∈ c, l ≠ 0
theorem nz_under {R : Rs} (l : Int) (h : NZ R) : NZ (under R l) := fun c' hc z hz => by
  obtain ⟨c, h1, e⟩ := mem_under.mp hc
  exact h c h1 z ((mem_undC e).mp hz).1
def setV (a : Int → Bool) (l : Int) : Int → Bool := fun v => if v = iabs l then decide (0 < l) else a v
theorem litT_set {a : Int → Bool} {l : Int} (h : l ≠ 0) : litT (setV a l) l = true := by
  unfold litT setV iabs
  by_cases q : l < 0
  · simp [q]
    omega
  · simp [q]
    omega
theorem litT_other {a : Int → Bool} {l z : Int} (h : iabs z ≠ iabs l) : litT (setV a l) z = litT a z := by
  unfold litT setV
  have e : iabs z = if z < 0 then -z else z := rfl
  by_cases q : z < 0
  · rw [if_pos q] at e
    rw [if_pos q, if_pos q, if_neg (by rw [← e]; exact h)]
  · rw [if_neg q] at e
    rw [if_neg q, if_neg q, if_neg (by rw [← e]; exact h)]
theorem satR_set {a : Int → Bool} {R : Rs} {l : Int} : satR (setV a l) (under R l) = satR a (under R l) := by
  rw [Bool.eq_iff_iff, satR_iff, satR_iff]
  have k : ∀ c ∈ under R l, ∀ z ∈ c, litT (setV a l) z = litT a z := fun c hc z hz => litT_other fun e => (vars_under (mem_varsOf.mpr ⟨c, hc, z, hz, rfl⟩)).2 e
  exact forall₂_congr fun c hc => exists_congr fun z => and_congr_right fun hz => by rw [k c hc z hz]
def Sat (R : Rs) : Prop := ∃ a, satR a R = true
theorem sat_under_iff {R : Rs} {l : Int} (h : l ≠ 0) : Sat (under R l) ↔ ∃ a, litT a l = true ∧ satR a R = true := by
  refine ⟨fun ⟨a, ha⟩ => ⟨setV a l, litT_set h, ?_⟩, fun ⟨a, h1, h2⟩ => ⟨a, by rw [sat_under h h1]; exact h2⟩⟩
  rw [← sat_under h (litT_set h), satR_set]
  exact ha
theorem sat_split {R : Rs} {l : Int} (h : l ≠ 0) : Sat R ↔ Sat (under R l) ∨ Sat (under R (-l)) := by
  rw [sat_under_iff h, sat_under_iff (show -l ≠ 0 by omega)]
  refine ⟨fun ⟨a, ha⟩ => ?_, fun q => q.elim (fun ⟨a, _, ha⟩ => ⟨a, ha⟩) fun ⟨a, _, ha⟩ => ⟨a, ha⟩⟩
  cases e : litT a l with
  | true => exact .inl ⟨a, e, ha⟩
  | false => exact .inr ⟨a, by rw [litT_neg h, e]; rfl, ha⟩
theorem not_sat_empty : ¬ Sat [[]] := fun ⟨a, h⟩ => by
  obtain ⟨l, hl, _⟩ := satR_iff.mp h [] (by simp)
  cases hl
theorem sat_nil : Sat [] := ⟨fun _ => true, rfl⟩
theorem not_sat_hasE {R : Rs} (h : hasE R = true) : ¬ Sat R := fun ⟨a, q⟩ => by
  unfold hasE at h
  obtain ⟨c, hc, e⟩ := List.any_eq_true.mp h
  obtain ⟨l, hl, _⟩ := satR_iff.mp q c hc
  rw [of_decide_eq_true e] at hl
  cases hl
theorem sat_propF : ∀ (n : Nat) {R : Rs}, NZ R → (NZ (propF n R).1 ∧ (Sat (propF n R).1 ↔ Sat R))
  | 0, R, h => ⟨h, Iff.rfl⟩
  | n + 1, R, h => by
    unfold propF
    split
    · rename_i e
      exact ⟨fun c hc l hl => (by rw [List.mem_singleton.mp hc] at hl; cases hl), fun q => (not_sat_empty q).elim, fun q => (not_sat_hasE e q).elim⟩
    · split
      · exact ⟨h, Iff.rfl⟩
      · rename_i u us hu
        have h0 : [u] ∈ R := mem_unitsOf.mp (by rw [hu]; exact List.mem_cons_self)
        have hu0 : u ≠ 0 := h [u] h0 u (by simp)
        obtain ⟨g1, g2⟩ := sat_propF n (nz_under u h)
        refine ⟨g1, g2.trans ⟨fun q => ?_, fun ⟨a, ha⟩ => ?_⟩⟩
        · exact (sat_split hu0).mpr (.inl q)
        · obtain ⟨l, hl, hl2⟩ := satR_iff.mp ha [u] h0
          rw [List.mem_singleton.mp hl] at hl2
          exact (sat_under_iff hu0).mpr ⟨a, hl2, ha⟩
theorem sat_prop {R : Rs} (h : NZ R) : Sat (prop R).1 ↔ Sat R := (sat_propF _ h).2
theorem nz_prop {R : Rs} (h : NZ R) : NZ (prop R).1 := (sat_propF _ h).1
end CW

/-! Plain: the search. -/
namespace CW
open PySem
theorem vars_propF : ∀ (n : Nat) {R : Rs} {v : Int}, v ∈ varsOf (propF n R).1 → v ∈ varsOf R
  | 0, _, _, h => h
  | n + 1, R, v, h => by
    unfold propF at h
    split at h
    · rw [show varsOf [[]] = [] from sortI_nil] at h; cases h
    · split at h
      · exact h
      · exact (vars_under (vars_propF n h)).1
theorem vars_prop {R : Rs} {v : Int} (h : v ∈ varsOf (prop R).1) : v ∈ varsOf R := vars_propF _ h
theorem vars_prop_le (R : Rs) : (varsOf (prop R).1).length ≤ (varsOf R).length := nodup_sub_len (nodup_varsOf _) fun _ h => vars_prop h
theorem prop_hasE : ∀ (n : Nat) {R : Rs}, (varsOf R).length ≤ n → hasE (prop R).1 = true → (prop R).1 = [[]]
  | n, R, hn, h => by
    rw [prop_eq] at h ⊢
    split at h
    · rename_i e; rw [if_pos e]
    · rename_i e
      rw [if_neg e]
      cases hu : unitsOf R with
      | nil =>
        rw [hu] at h
        exact absurd h e
      | cons u us =>
        rw [hu] at h
        have h0 : [u] ∈ R := mem_unitsOf.mp (by rw [hu]; exact List.mem_cons_self)
        have hl := vars_under_lt (R := R) (l := u) (mem_varsOf.mpr ⟨[u], h0, u, by simp, rfl⟩)
        cases n with
        | zero => omega
        | succ n => exact prop_hasE n (by omega) h
theorem vars_ne {R : Rs} (h1 : R ≠ []) (h2 : hasE R = false) : varsOf R ≠ [] := fun e => by
  cases R with
  | nil => exact h1 rfl
  | cons c R =>
    cases c with
    | nil => simp [hasE] at h2
    | cons l c =>
      have : iabs l ∈ varsOf ((l :: c) :: R) := mem_varsOf.mpr ⟨l :: c, List.mem_cons_self, l, List.mem_cons_self, rfl⟩
      rw [e] at this
      cases this
theorem varsOf_pos {R : Rs} {v : Int} (h : NZ R) (hv : v ∈ varsOf R) : 0 < v := by
  obtain ⟨c, hc, l, hl, rfl⟩ := mem_varsOf.mp hv
  have := h c hc l hl
  unfold iabs
  split <;> omega
theorem nz_left : ∀ (ds : List (Int × Bool)) {L : Rs}, NZ L → NZ (ds.foldl (fun L z => (prop (under L z.1)).1) L)
  | [], _, h => h
  | z :: ds, _, h => nz_left ds (nz_prop (nz_under z.1 h))
theorem nz_leftOf {R : Rs} (h : NZ R) (ds : List (Int × Bool)) : NZ (leftOf R ds) := nz_left ds (nz_prop h)
/-- what stands at the levels -/
def LvI (R : Rs) (ds : List (Int × Bool)) : Prop := ∀ (pre : List (Int × Bool)) (n : Int) (b : Bool) (suf : List (Int × Bool)), ds = pre ++ (n, b) :: suf → n ≠ 0 ∧ iabs n ∈ varsOf (leftOf R pre) ∧ (b = true → ¬ Sat (under (leftOf R pre) (-n)))
theorem LvI.pre {R : Rs} {pre suf : List (Int × Bool)} (h : LvI R (pre ++ suf)) : LvI R pre := fun p n b s e => h p n b (s ++ suf) (by rw [e]; simp)
theorem LvI.nil {R : Rs} : LvI R [] := fun p n b s e => by cases p <;> cases e
theorem LvI.snoc {R : Rs} {ds : List (Int × Bool)} {n : Int} {b : Bool} (h : LvI R ds) (h0 : n ≠ 0) (h1 : iabs n ∈ varsOf (leftOf R ds)) (h2 : b = true → ¬ Sat (under (leftOf R ds) (-n))) : LvI R (ds ++ [(n, b)]) := fun p m c s e => by
  rcases s.eq_nil_or_concat with rfl | ⟨s', z, rfl⟩
  · obtain ⟨rfl, e2⟩ := List.append_inj' e rfl
    cases e2
    exact ⟨h0, h1, h2⟩
  · rw [List.concat_eq_append, ← List.cons_append, ← List.append_assoc] at e
    obtain ⟨rfl, _⟩ := List.append_inj' e rfl
    exact h p m c s' rfl
theorem vars_left_snoc {R : Rs} {ds : List (Int × Bool)} {z : Int × Bool} (h : iabs z.1 ∈ varsOf (leftOf R ds)) : (varsOf (leftOf R (ds ++ [z]))).length < (varsOf (leftOf R ds)).length := by
  rw [leftOf_snoc]
  exact Nat.lt_of_le_of_lt (vars_prop_le _) (vars_under_lt h)
theorem LvI.len {R : Rs} : ∀ (n : Nat) {ds : List (Int × Bool)}, ds.length = n → LvI R ds → ds.length + (varsOf (leftOf R ds)).length ≤ (varsOf R).length
  | 0, ds, e, _ => by
    obtain rfl := List.length_eq_zero_iff.mp e
    have := vars_prop_le R
    show 0 + (varsOf (prop R).1).length ≤ _
    omega
  | n + 1, ds, e, h => by
    rcases ds.eq_nil_or_concat with rfl | ⟨d', z, rfl⟩
    · cases e
    · rw [List.concat_eq_append] at e h ⊢
      have ih := LvI.len n (ds := d') (by simpa using e) h.pre
      have := vars_left_snoc (z := z) (h d' z.1 z.2 [] (by simp)).2.1
      simp only [List.length_append, List.length_singleton]
      omega
theorem sat_left_snoc {R : Rs} (hz : NZ R) {ds : List (Int × Bool)} {z : Int × Bool} : Sat (leftOf R (ds ++ [z])) ↔ Sat (under (leftOf R ds) z.1) := by
  rw [leftOf_snoc]
  exact sat_prop (nz_under _ (nz_leftOf hz ds))
theorem LvI.unsat {R : Rs} (hz : NZ R) : ∀ (n : Nat) {pre suf : List (Int × Bool)}, suf.length = n → LvI R (pre ++ suf) → (∀ z ∈ suf, z.2 = true) → ¬ Sat (leftOf R (pre ++ suf)) → ¬ Sat (leftOf R pre)
  | 0, pre, suf, e, _, _, h => by
    obtain rfl := List.length_eq_zero_iff.mp e
    simpa using h
  | n + 1, pre, suf, e, hl, ht, h => by
    rcases suf.eq_nil_or_concat with rfl | ⟨s', z, rfl⟩
    · cases e
    · rw [List.concat_eq_append] at e hl ht h
      rw [← List.append_assoc] at hl h
      refine LvI.unsat hz n (suf := s') (by simpa using e) hl.pre (fun y hy => ht y (by simp [hy])) fun q => ?_
      obtain ⟨h0, h1, h2⟩ := hl (pre ++ s') z.1 z.2 [] (by simp)
      rcases (sat_split h0).mp q with q | q
      · exact h ((sat_left_snoc hz).mpr q)
      · exact h2 (ht z (by simp)) q
theorem LvI.sat {R : Rs} (hz : NZ R) : ∀ (n : Nat) {ds : List (Int × Bool)}, ds.length = n → LvI R ds → Sat (leftOf R ds) → Sat R
  | 0, ds, e, _, h => by
    obtain rfl := List.length_eq_zero_iff.mp e
    exact (sat_prop hz).mp h
  | n + 1, ds, e, hl, h => by
    rcases ds.eq_nil_or_concat with rfl | ⟨d', z, rfl⟩
    · cases e
    · rw [List.concat_eq_append] at e h hl
      refine LvI.sat hz n (ds := d') (by simpa using e) hl.pre ?_
      exact (sat_split (hl d' z.1 z.2 [] (by simp)).1).mpr (.inl ((sat_left_snoc hz).mp h))
/-- steps that are left, two variables -/
def mu2 : List Bool → Nat
  | [] => 6
  | [false] => 5
  | [false, false] => 4
  | [false, true] => 3
  | [true] => 2
  | [true, false] => 1
  | _ => 0
theorem mu2_down {ds : List Bool} (h : ds.length < 2) : mu2 (ds ++ [false]) < mu2 ds := by
  match ds, h with
  | [], _ => decide
  | [false], _ => decide
  | [true], _ => decide
theorem mu2_over {pre suf : List Bool} (h : (pre ++ false :: suf).length ≤ 2) (ht : ∀ b ∈ suf, b = true) : mu2 (pre ++ [true]) < mu2 (pre ++ false :: suf) := by
  match pre, suf, h with
  | [], [], _ => decide
  | [], [b], _ =>
    obtain rfl := ht b (by simp)
    decide
  | [false], [], _ => decide
  | [true], [], _ => decide
  | [], _ :: _ :: _, h => simp at h
  | [_], _ :: _, h => simp at h
  | _ :: _ :: _, _, h => simp at h
end CW

/-! Plain: weighted counts. -/
namespace CW
open PySem
def put (a : Int → Bool) (v : Int) (x : Bool) : Int → Bool := fun z => if z = v then x else a z
theorem put_same {a : Int → Bool} {v : Int} {x : Bool} : put a v x v = x := if_pos rfl
theorem put_ne {a : Int → Bool} {v z : Int} {x : Bool} (h : z ≠ v) : put a v x z = a z := if_neg h
theorem put_comm {a : Int → Bool} {u v : Int} {x y : Bool} (h : u ≠ v) : put (put a u x) v y = put (put a v y) u x := by
  funext z
  unfold put
  by_cases h1 : z = u <;> by_cases h2 : z = v <;> simp_all
def cnt (ls : List Int) : List Int → ((Int → Bool) → Int) → (Int → Bool) → Int
  | [], F, a => F a
  | v :: vs, F, a => wt ls (-v) * cnt ls vs F (put a v false) + wt ls v * cnt ls vs F (put a v true)
/-- F looks at D alone -/
def Dep (F : (Int → Bool) → Int) (D : List Int) : Prop := ∀ a b, (∀ v ∈ D, a v = b v) → F a = F b
section
variable {ls : List Int} {F G : (Int → Bool) → Int} {D E : List Int}
theorem cnt_congr : ∀ {vs : List Int} {a : Int → Bool}, (∀ b, (∀ z, z ∉ vs → b z = a z) → F b = G b) → cnt ls vs F a = cnt ls vs G a
  | [], a, h => h a fun _ _ => rfl
  | v :: vs, a, h => by
    have g : ∀ x, cnt ls vs F (put a v x) = cnt ls vs G (put a v x) := fun x => cnt_congr fun b hb => h b fun z hz => by
      rw [hb z fun q => hz (List.mem_cons_of_mem _ q), put_ne fun e => hz (by rw [e]; exact List.mem_cons_self)]
    show _ * _ + _ * _ = _ * _ + _ * _
    rw [g, g]
theorem cnt_dep (hF : Dep F D) : ∀ {vs : List Int} {a b : Int → Bool}, (∀ v ∈ D, v ∉ vs → a v = b v) → cnt ls vs F a = cnt ls vs F b
  | [], a, b, h => hF a b fun v hv => h v hv (by simp)
  | w :: vs, a, b, h => by
    have g : ∀ x, cnt ls vs F (put a w x) = cnt ls vs F (put b w x) := fun x => cnt_dep hF fun v hv hn => by
      by_cases e : v = w
      · subst e; rw [put_same, put_same]
      · rw [put_ne e, put_ne e]
        exact h v hv fun q => (List.mem_cons.mp q).elim e hn
    show _ * _ + _ * _ = _ * _ + _ * _
    rw [g, g]
theorem prodI_from : ∀ (xs : List Int) (y : Int), xs.foldl (· * ·) y = y * prodI xs
  | [], y => (Int.mul_one y).symm
  | x :: xs, y => by
    unfold prodI
    rw [List.foldl_cons, List.foldl_cons, prodI_from xs, prodI_from xs (1 * x), Int.one_mul, Int.mul_assoc]
theorem prodI_cons (x : Int) (xs : List Int) : prodI (x :: xs) = x * prodI xs := by
  show xs.foldl (· * ·) (1 * x) = _
  rw [prodI_from, Int.one_mul]
theorem freeW_nil : freeW ls [] = 1 := rfl
theorem freeW_cons (v : Int) (vs : List Int) : freeW ls (v :: vs) = (wt ls v + wt ls (-v)) * freeW ls vs := prodI_cons _ _
theorem cnt_free (hF : Dep F D) {v : Int} {vs : List Int} {a : Int → Bool} (h : v ∉ D) : cnt ls (v :: vs) F a = (wt ls v + wt ls (-v)) * cnt ls vs F a := by
  have g : ∀ x, cnt ls vs F (put a v x) = cnt ls vs F a := fun x => cnt_dep hF fun w hw _ => put_ne fun e => h (by rw [← e]; exact hw)
  show _ * _ + _ * _ = _
  rw [g, g, Int.add_mul, Int.add_comm]
theorem cnt_frees (hF : Dep F D) {vs : List Int} {a : Int → Bool} : ∀ {us : List Int}, (∀ v ∈ us, v ∉ D) → cnt ls (us ++ vs) F a = freeW ls us * cnt ls vs F a
  | [], _ => by rw [freeW_nil, Int.one_mul]; rfl
  | u :: us, h => by
    rw [List.cons_append, cnt_free hF (h u List.mem_cons_self), cnt_frees hF fun v hv => h v (List.mem_cons_of_mem _ hv), freeW_cons, Int.mul_assoc]
theorem cnt_swap {u v : Int} (h : u ≠ v) {vs : List Int} {a : Int → Bool} : cnt ls (u :: v :: vs) F a = cnt ls (v :: u :: vs) F a := by
  simp only [cnt]
  rw [put_comm (x := false) (y := false) h, put_comm (x := false) (y := true) h, put_comm (x := true) (y := false) h, put_comm (x := true) (y := true) h]
  grind
theorem cnt_perm : ∀ {us vs : List Int}, us.Perm vs → us.Nodup → ∀ {a : Int → Bool}, cnt ls us F a = cnt ls vs F a := by
  intro us vs p
  induction p with
  | nil => intros; rfl
  | cons x p ih =>
    intro h a
    have h2 := (List.nodup_cons.mp h).2
    simp only [cnt]
    rw [ih h2, ih h2]
  | swap x y l =>
    intro h a
    have : y ≠ x := fun e => (List.nodup_cons.mp h).1 (by rw [e]; exact List.mem_cons_self)
    exact cnt_swap this
  | trans p q i1 i2 =>
    intro h a
    rw [i1 h, i2 (p.nodup_iff.mp h)]
theorem cnt_append : ∀ {us vs : List Int} {a : Int → Bool}, cnt ls (us ++ vs) F a = cnt ls us (fun b => cnt ls vs F b) a
  | [], _, _ => rfl
  | u :: us, vs, a => by
    simp only [List.cons_append, cnt]
    rw [cnt_append, cnt_append]
theorem cnt_mulc (hG : Dep G E) : ∀ {vs : List Int} {a : Int → Bool}, (∀ v ∈ vs, v ∉ E) → cnt ls vs (fun b => G b * F b) a = G a * cnt ls vs F a
  | [], a, _ => rfl
  | v :: vs, a, h => by
    have g : ∀ x, G (put a v x) = G a := fun x => hG _ _ fun w hw => put_ne fun e => h v List.mem_cons_self (by rw [← e]; exact hw)
    have hh : ∀ w ∈ vs, w ∉ E := fun w hw => h w (List.mem_cons_of_mem _ hw)
    simp only [cnt]
    rw [cnt_mulc hG hh, cnt_mulc hG hh, g, g]
    grind
theorem cnt_mulr (c : Int) : ∀ {vs : List Int} {a : Int → Bool}, cnt ls vs (fun b => G b * c) a = cnt ls vs G a * c
  | [], _ => rfl
  | v :: vs, a => by
    simp only [cnt]
    rw [cnt_mulr c, cnt_mulr c]
    grind
theorem cnt_prod (hF : Dep F D) (hG : Dep G E) {us vs : List Int} {a : Int → Bool} (h1 : ∀ v ∈ us, v ∉ E) (h2 : ∀ v ∈ vs, v ∉ D) : cnt ls (us ++ vs) (fun b => F b * G b) a = cnt ls us F a * cnt ls vs G a := by
  rw [cnt_append, ← cnt_mulr]
  refine cnt_congr fun b hb => ?_
  rw [cnt_mulc hF h2]
  congr 1
  exact cnt_dep hG fun v hv _ => hb v fun q => h1 v q hv
theorem cnt_zero : ∀ {vs : List Int} {a : Int → Bool}, cnt ls vs (fun _ => 0) a = 0
  | [], _ => rfl
  | v :: vs, a => by
    simp only [cnt]
    rw [cnt_zero, cnt_zero]
    simp
/-- numbers stay small -/
theorem wt01 (l : Int) : wt ls l = 0 ∨ wt ls l = 1 := by
  unfold wt
  split
  · exact .inl rfl
  · exact .inr rfl
theorem cnt_bound (h : ∀ b, 0 ≤ F b ∧ F b ≤ 1) : ∀ {vs : List Int} {a : Int → Bool}, 0 ≤ cnt ls vs F a ∧ cnt ls vs F a ≤ 2 ^ vs.length
  | [], a => by simpa [cnt] using h a
  | v :: vs, a => by
    have h1 := cnt_bound h (vs := vs) (a := put a v false)
    have h2 := cnt_bound h (vs := vs) (a := put a v true)
    simp only [cnt, List.length_cons, Int.pow_succ]
    rcases wt01 (ls := ls) (-v) with e1 | e1 <;> rcases wt01 (ls := ls) v with e2 | e2 <;> rw [e1, e2] <;> omega
end
/-! ### residues -/
theorem satR_dep {a b : Int → Bool} {R : Rs} (h : ∀ v ∈ varsOf R, a v = b v) : satR a R = satR b R := by
  rw [Bool.eq_iff_iff, satR_iff, satR_iff]
  refine forall₂_congr fun c hc => exists_congr fun l => and_congr_right fun hl => ?_
  have e := h (iabs l) (mem_varsOf.mpr ⟨c, hc, l, hl, rfl⟩)
  unfold iabs at e
  unfold litT
  split
  · rename_i q; rw [if_pos q] at e; rw [e]
  · rename_i q; rw [if_neg q] at e; rw [e]
def FW (S : List Int) (R : Rs) (a : Int → Bool) : Prop := ∃ b, (∀ v ∈ S, b v = a v) ∧ satR b R = true
open Classical in
noncomputable def Fs (S : List Int) (R : Rs) (a : Int → Bool) : Int := if FW S R a then 1 else 0
theorem Fs_iff {S : List Int} {R Q : Rs} {a b : Int → Bool} (h : FW S R a ↔ FW S Q b) : Fs S R a = Fs S Q b := by
  unfold Fs
  by_cases q : FW S R a
  · rw [if_pos q, if_pos (h.mp q)]
  · rw [if_neg q, if_neg fun z => q (h.mpr z)]
theorem Fs_01 (S : List Int) (R : Rs) (a : Int → Bool) : 0 ≤ Fs S R a ∧ Fs S R a ≤ 1 := by
  unfold Fs
  split <;> decide
theorem Fs_one {S : List Int} {R : Rs} {a : Int → Bool} (h : FW S R a) : Fs S R a = 1 := if_pos h
theorem Fs_zero {S : List Int} {R : Rs} {a : Int → Bool} (h : ¬ FW S R a) : Fs S R a = 0 := if_neg h
theorem mem_shownOf {S : List Int} {R : Rs} {v : Int} : v ∈ shownOf S R ↔ v ∈ varsOf R ∧ v ∈ S := by
  unfold shownOf
  rw [List.mem_filter]
  simp
theorem nodup_shownOf (S : List Int) (R : Rs) : (shownOf S R).Nodup := (nodup_varsOf R).filter _
theorem FW_dep {S : List Int} {R : Rs} {a b : Int → Bool} (h : ∀ v ∈ shownOf S R, a v = b v) : FW S R a → FW S R b := fun ⟨c, h1, h2⟩ =>
  ⟨fun v => if v ∈ S then b v else c v, fun v hv => if_pos hv, by
    rw [← h2]
    refine satR_dep fun v hv => ?_
    by_cases q : v ∈ S
    · show (if v ∈ S then b v else c v) = c v
      rw [if_pos q, h1 v q, h v (mem_shownOf.mpr ⟨hv, q⟩)]
    · exact if_neg q⟩
theorem dep_Fs (S : List Int) (R : Rs) : Dep (Fs S R) (shownOf S R) := fun a b h => Fs_iff ⟨FW_dep h, FW_dep fun v hv => (h v hv).symm⟩
theorem litT_iabs {a b : Int → Bool} {l : Int} (h : a (iabs l) = b (iabs l)) : litT a l = litT b l := by
  unfold iabs at h
  unfold litT
  split
  · rename_i q; rw [if_pos q] at h; rw [h]
  · rename_i q; rw [if_neg q] at h; rw [h]
theorem Fs_under {S : List Int} {R : Rs} {a : Int → Bool} {l : Int} (h0 : l ≠ 0) (hS : iabs l ∈ S) (ha : litT a l = true) : Fs S R a = Fs S (under R l) a :=
  Fs_iff (exists_congr fun b => and_congr_right fun hb => by rw [sat_under h0 ((litT_iabs (hb _ hS)).trans ha)])
theorem shown_under {S : List Int} {R : Rs} {l v : Int} (h : v ∈ shownOf S (under R l)) : v ∈ shownOf S R ∧ v ≠ iabs l := by
  obtain ⟨h1, h2⟩ := mem_shownOf.mp h
  exact ⟨mem_shownOf.mpr ⟨(vars_under h1).1, h2⟩, (vars_under h1).2⟩
/-- own variables of a node, without the one told, over those of a child -/
theorem lack_perm {O C : List Int} {l : Int} (h1 : O.Nodup) (h2 : C.Nodup) (h3 : ∀ v ∈ C, v ∈ O ∧ v ≠ iabs l) : (O.filter fun v => !decide (v = iabs l)).Perm ((O.filter fun v => (!C.contains v) && !decide (v = iabs l)) ++ C) := by
  refine (List.perm_ext_iff_of_nodup (h1.filter _) ?_).mpr fun v => ?_
  · rw [List.nodup_append]
    refine ⟨h1.filter _, h2, fun a ha b hb e => ?_⟩
    subst e
    have := (List.mem_filter.mp ha).2
    simp [hb] at this
  · rw [List.mem_append, List.mem_filter, List.mem_filter]
    constructor
    · rintro ⟨g1, g2⟩
      by_cases q : v ∈ C
      · exact .inr q
      · exact .inl ⟨g1, by simpa [q] using g2⟩
    · rintro (⟨g1, g2⟩ | g)
      · exact ⟨g1, by simp at g2; simpa using g2.2⟩
      · exact ⟨(h3 v g).1, by simpa using (h3 v g).2⟩
end CW

/-! Plain: canonical clauses, plans. -/
namespace CW
open PySem
/-- ascending by the variable, none twice -/
def Canon (c : Cl) : Prop := c.Pairwise fun x y => iabs x < iabs y
theorem canon_sub : ∀ {c o : Cl}, Canon o → Canon c → (∀ z ∈ o, z ∈ c) → o.Sublist c
  | [], [], _, _, _ => .slnil
  | [], z :: o, _, _, h => by have := h z (by simp); cases this
  | y :: c, [], _, _, _ => by simp
  | y :: c, x :: o, ho, hc, h => by
    have ho' := List.pairwise_cons.mp ho
    have hc' := List.pairwise_cons.mp hc
    by_cases q : x = y
    · subst q
      refine .cons₂ _ (canon_sub ho'.2 hc'.2 fun z hz => ?_)
      rcases List.mem_cons.mp (h z (List.mem_cons_of_mem _ hz)) with rfl | hz'
      · have := ho'.1 z hz; omega
      · exact hz'
    · have hx : x ∈ c := (List.mem_cons.mp (h x List.mem_cons_self)).resolve_left q
      have hxy := hc'.1 x hx
      refine .cons _ (canon_sub ho hc'.2 fun z hz => ?_)
      rcases List.mem_cons.mp (h z hz) with e | hz'
      · exfalso
        subst e
        rcases List.mem_cons.mp hz with e | hz
        · exact q e.symm
        · have := ho'.1 z hz; omega
      · exact hz'
theorem canon_len {R : Rs} {c : Cl} (h : Canon c) (hc : c ∈ R) : c.length ≤ (varsOf R).length := by
  have : (c.map iabs).Nodup := by
    unfold List.Nodup
    rw [List.pairwise_map]
    exact h.imp fun q e => by omega
  have := nodup_sub_len (zs := varsOf R) this fun v hv => by
    obtain ⟨l, hl, rfl⟩ := List.mem_map.mp hv
    exact mem_varsOf.mpr ⟨c, hc, l, hl, rfl⟩
  simpa using this
def CanR (R : Rs) : Prop := ∀ c ∈ R, Canon c
theorem canon_undC {l : Int} {c c' : Cl} (h : undC l c = some c') (hc : Canon c) : Canon c' := by
  unfold undC at h
  split at h
  · cases h
  · rw [← Option.some.inj h]
    split
    · exact List.Pairwise.sublist List.filter_sublist hc
    · exact hc
theorem can_under {R : Rs} (l : Int) (h : CanR R) : CanR (under R l) := fun c hc => by
  obtain ⟨c0, h0, e⟩ := mem_under.mp hc
  exact canon_undC e (h c0 h0)
/-! ### clauses that say less -/
theorem within_iff {a b : Cl} : isWithin a b = true ↔ a.length ≤ b.length ∧ ∀ z ∈ a, z ∈ b := by
  unfold isWithin
  rw [Bool.and_eq_true, List.all_eq_true]
  simp
theorem mem_lessened {R : Rs} {c : Cl} : c ∈ lessened R ↔ c ∈ R ∧ ∀ o ∈ R, o ≠ c → ¬ isWithin o c = true := by
  unfold lessened
  rw [List.mem_filter]
  simp
theorem less_low {R : Rs} (hc : CanR R) : ∀ (n : Nat) {c : Cl}, c.length ≤ n → c ∈ R → ∃ o ∈ lessened R, ∀ z ∈ o, z ∈ c
  | n, c, hn, h => by
    by_cases q : ∃ o ∈ R, o ≠ c ∧ isWithin o c = true
    · obtain ⟨o, ho, hne, hw⟩ := q
      obtain ⟨w1, w2⟩ := within_iff.mp hw
      have hs := canon_sub (hc o ho) (hc c h) w2
      have hl : o.length < c.length := Nat.lt_of_le_of_ne w1 fun e => hne (hs.eq_of_length e)
      cases n with
      | zero => omega
      | succ n =>
        obtain ⟨o', h1, h2⟩ := less_low hc n (c := o) (by omega) ho
        exact ⟨o', h1, fun z hz => w2 z (h2 z hz)⟩
    · exact ⟨c, mem_lessened.mpr ⟨h, fun o ho hne hw => q ⟨o, ho, hne, hw⟩⟩, fun _ hz => hz⟩
theorem sat_less {R : Rs} (hc : CanR R) (a : Int → Bool) : satR a (lessened R) = satR a R := by
  rw [Bool.eq_iff_iff, satR_iff, satR_iff]
  refine ⟨fun h c hcR => ?_, fun h c hcL => h c (mem_lessened.mp hcL).1⟩
  obtain ⟨o, h1, h2⟩ := less_low hc _ (Nat.le_refl _) hcR
  obtain ⟨l, hl, hl2⟩ := h o h1
  exact ⟨l, h2 l hl, hl2⟩
theorem less_of_sub {R Q : Rs} (h : lessened R = R) (hs : ∀ c ∈ Q, c ∈ R) : lessened Q = Q := by
  unfold lessened
  rw [List.filter_eq_self]
  intro c hc
  have := hs c hc
  rw [← h] at this
  have h2 := (mem_lessened.mp this).2
  simp only [Bool.not_eq_true', List.any_eq_false, Bool.and_eq_true, not_and]
  intro o ho hne
  exact h2 o (hs o ho) (by simpa using hne)
theorem less_idem (R : Rs) : lessened (lessened R) = lessened R := by
  unfold lessened
  rw [List.filter_eq_self]
  intro c hc
  have h2 := (mem_lessened.mp hc).2
  simp only [Bool.not_eq_true', List.any_eq_false, Bool.and_eq_true, not_and]
  intro o ho hne
  exact h2 o (mem_lessened.mp ho).1 (by simpa using hne)
theorem vars_of_sub {R Q : Rs} (h : ∀ c ∈ Q, c ∈ R) {v : Int} (hv : v ∈ varsOf Q) : v ∈ varsOf R := by
  obtain ⟨c, hc, l, hl, e⟩ := mem_varsOf.mp hv
  exact mem_varsOf.mpr ⟨c, h c hc, l, hl, e⟩
theorem hasE_iff {R : Rs} : hasE R = true ↔ [] ∈ R := by
  unfold hasE
  rw [List.any_eq_true]
  simp
theorem hasE_sub {R Q : Rs} (h : ∀ c ∈ Q, c ∈ R) (hE : hasE R = false) : hasE Q = false := by
  cases q : hasE Q with
  | false => rfl
  | true =>
    have := hasE_iff.mpr (h _ (hasE_iff.mp q))
    rw [hE] at this
    cases this
theorem units_sub {R Q : Rs} (h : ∀ c ∈ Q, c ∈ R) (hE : unitsOf R = []) : unitsOf Q = [] := by
  cases q : unitsOf Q with
  | nil => rfl
  | cons u us =>
    have : u ∈ unitsOf R := mem_unitsOf.mpr (h _ (mem_unitsOf.mp (by rw [q]; exact List.mem_cons_self)))
    rw [hE] at this
    cases this
/-! ### parts -/
theorem mem_partsOf {κ : Cl → Int} {R P : Rs} : P ∈ partsOf κ R ↔ ∃ k ∈ keysOf κ R, P = residueOf (grp κ R k) := by
  unfold partsOf
  rw [List.mem_map]
  constructor
  · rintro ⟨k, hk, rfl⟩
    exact ⟨k, (sortI_perm _).mem_iff.mp hk, rfl⟩
  · rintro ⟨k, hk, rfl⟩
    exact ⟨k, (sortI_perm _).mem_iff.mpr hk, rfl⟩
theorem mem_grp {κ : Cl → Int} {R : Rs} {k : Int} {c : Cl} : c ∈ residueOf (grp κ R k) ↔ c ∈ R ∧ κ c = k := by
  rw [mem_residueOf]
  unfold grp
  rw [List.mem_filter]
  simp
theorem unif_var {L : Int → Int} {R : Rs} (U : Unif L R) {k v : Int} (h : v ∈ varsOf (residueOf (grp (kap L) R k))) : L v = k := by
  obtain ⟨c, hc, l, hl, rfl⟩ := mem_varsOf.mp h
  obtain ⟨h1, h2⟩ := mem_grp.mp hc
  rw [← h2]
  cases c with
  | nil => cases hl
  | cons z c => exact U _ h1 l hl z List.mem_cons_self
theorem parts_sub {κ : Cl → Int} {R P : Rs} (h : P ∈ partsOf κ R) : ∀ c ∈ P, c ∈ R := by
  obtain ⟨k, _, rfl⟩ := mem_partsOf.mp h
  exact fun c hc => (mem_grp.mp hc).1
theorem parts_mem {κ : Cl → Int} {R : Rs} {c : Cl} (h : c ∈ R) : ∃ P ∈ partsOf κ R, c ∈ P := by
  refine ⟨residueOf (grp κ R (κ c)), mem_partsOf.mpr ⟨κ c, ?_, rfl⟩, mem_grp.mpr ⟨h, rfl⟩⟩
  exact mem_dedup.mpr (.inr (List.mem_map.mpr ⟨c, h, rfl⟩))
theorem parts_ne {κ : Cl → Int} {R P : Rs} (h : P ∈ partsOf κ R) : P ≠ [] := by
  obtain ⟨k, hk, rfl⟩ := mem_partsOf.mp h
  rcases mem_dedup.mp hk with q | q
  · cases q
  · obtain ⟨c, hc, e⟩ := List.mem_map.mp q
    intro z
    have : c ∈ residueOf (grp κ R k) := mem_grp.mpr ⟨hc, e⟩
    rw [z] at this
    cases this
theorem keys_nodup (κ : Cl → Int) (R : Rs) : (sortI (keysOf κ R)).Nodup := nodup_sortI (nodup_dedup List.nodup_nil)
/-- disjoint rows -/
theorem vars_parts {L : Int → Int} {R : Rs} (U : Unif L R) : ∀ ks : List Int, ks.Nodup → (ks.flatMap fun k => varsOf (residueOf (grp (kap L) R k))).Nodup
  | [], _ => by simp
  | k :: ks, h => by
    obtain ⟨h1, h2⟩ := List.nodup_cons.mp h
    rw [List.flatMap_cons, List.nodup_append]
    refine ⟨nodup_varsOf _, vars_parts U ks h2, fun a ha b hb e => ?_⟩
    subst e
    obtain ⟨k', hk', hb'⟩ := List.mem_flatMap.mp hb
    have := unif_var U ha
    rw [unif_var U hb'] at this
    subst this
    exact h1 hk'
end CW

set_option maxRecDepth 100000
set_option maxHeartbeats 4000000
/-! search_counted: the walk. -/
namespace CW
open PySem PySem.Spec PyProof.Rows L2
open C8 (Cal Met Mak pe_c pe_mk pe_mt pe_mt0)
theorem Rel.offs {K : PySem.W.Frag} {H0 Hk H H' : Hp} {σ : L2.St} {Γ : List Sl} (R : Rel K H0 Hk H σ Γ) (F : List Addr) (e : Same (off F H) H') (hF : ∀ a ∈ F, H0 a = none) (ht : ∀ a ∈ F, ∀ xs, H a ≠ some (.tup xs)) (hw : ∀ (i : Nat) (a : Addr) (c : Ct), Γ[i]? = some (Sl.w a c) → a ∉ F) : Rel K H0 Hk H' σ Γ := by
  have kp : Keep H H' := fun a xs h => e a _ (by rw [off_out fun q => ht a q xs h]; exact h)
  refine ⟨fun a o h => e a _ (by rw [off_out fun q => by rw [hF a q] at h; cases h]; exact R.base a o h), R.keep.trans kp, R.len, fun j s hj => ?_, R.own⟩
  have z := R.sl j s hj
  cases s with
  | any => trivial
  | t d => obtain ⟨v, h, q⟩ := z; exact ⟨v, h, q.k kp⟩
  | v x => exact z
  | w a c =>
    obtain ⟨h, n, o, q, c'⟩ := z
    exact ⟨h, n, o, e a _ (by rw [off_out (hw j a c hj)]; exact q), c'.k kp⟩
  | r ds => exact z
section
variable {K : PySem.W.Frag} {H H' : Hp} {x r l : Addr} {R : Rs} {rows : List (Option Cl)} {lvs : List Lv} {dec : Int}
theorem TrA.nt (h : TrA K H x r l R rows lvs dec) : ∀ a ∈ [r, l], ∀ xs, H a ≠ some (.tup xs) := fun a ha xs e => by
  obtain ⟨_, ⟨rs, b1, _⟩, ⟨ls, c1, _⟩, _⟩ := h
  rcases List.mem_cons.mp ha with rfl | ha
  · rw [b1] at e; cases e
  · obtain rfl := List.mem_singleton.mp ha
    rw [c1] at e; cases e
theorem TrA.ntl (h : TrA K H x r l R rows lvs dec) : ∀ a ∈ [l], ∀ xs, H a ≠ some (.tup xs) := fun a ha xs e => h.nt a (List.mem_cons_of_mem _ ha) xs e
theorem TrA.ntx (h : TrA K H x r l R rows lvs dec) : ∀ xs, H x ≠ some (.tup xs) := fun xs e => by
  obtain ⟨⟨dx, w1, a1, _⟩, _⟩ := h
  rw [a1] at e; cases e
theorem et_again {σ : L2.St} {i : Nat} {ds : List (Int × Bool)} {E : XK} (hR : RsOk R) (h : TrA K H x r l R rows (lvs0 ds) dec) (hd : ds.length ≤ 90000) (hx : σ[i]? = some (some (.ref x))) :
    ET K (tMeth (He.ga K "Trail") "again" (spTa K) [] E (tVar i) tNil) σ H (dR (leftOf R ds)) := fun H1 e Q k => by
  have h1 := h.same e
  obtain ⟨dx, w1, a1, a2⟩ := h1.obj
  exact ⟨.ref x, hx, x, dx, _, rfl, a1, rfl, x, r, l, R, rows, ds, dec, rfl, hR, hd, h1, fun v H' e2 t => k v H' e2 t⟩
theorem ars3 {vs : List V} {d : PyData} {n : Int} {b : Bool} (h : Ars K H vs [.t d, .t (.int n), .t (.bool b)]) : ∃ v, vs = [v, .int n, .bl b] ∧ Td K H v d := by
  cases h with
  | cons a t => cases t with
    | cons a2 t => cases t with
      | cons a3 t =>
        cases t
        cases a2
        cases a3
        exact ⟨_, rfl, a⟩
end
section
variable {P : Program} {w : World} {K : PySem.W.Frag} {mg : Str → Option Value} {base : Heap}
def Presearch (as : List Ar) : Prop := ∃ R fuel, as = [.t (dR R), .t (.int fuel)] ∧ RsOk R ∧ NZ R ∧ (varsOf R).length ≤ 2 ∧ 6 < fuel
def Posearch (as : List Ar) (r : Rz) : Prop := ∃ R fuel d n t, as = [.t (dR R), .t (.int fuel)] ∧ r = .t (.tuple [.tuple [.str (Tg.s t), d], .int n]) ∧ 0 ≤ n ∧ n ≤ 6 ∧ Shp 20 d ∧ ((t = .some_ ∧ Sat R) ∨ (t = .refuted ∧ ¬ Sat R))
theorem shp_rows (rows : List (Option Cl)) : Shp 20 (.tuple (rows.map oC)) := (shp_tup (n := 1) fun d hd => by
  obtain ⟨c, _, rfl⟩ := List.mem_map.mp hd
  cases c with
  | none => exact shp_none
  | some c => exact shp_dC c).mono (by decide)
theorem shp_intsT {fs : List PyData} (h : ∀ d ∈ fs, ∃ n : Int, d = .int n) : Shp 20 (.tuple fs) := (shp_tup (n := 0) fun d hd => by
  obtain ⟨n, rfl⟩ := h d hd
  exact shp_int).mono (by decide)
def ISc (K : PySem.W.Frag) (H0 Hk : Hp) (x : Addr) (R : Rs) (fuel : Int) (ds : List (Int × Bool)) (σ : L2.St) (H : Hp) : Prop := ∃ r l rows dec, Rel K H0 Hk H σ [.t (dR R), .t (.int fuel), .v (.ref x), .t (dR (leftOf R ds)), .any] ∧ TrA K H x r l R rows (lvs0 ds) dec ∧ H0 r = none ∧ H0 l = none ∧ LvI R ds ∧ 0 ≤ dec ∧ dec + mu2 (ds.map (·.2)) ≤ 6 ∧ rows.length + 3 * mu2 (ds.map (·.2)) ≤ 18
abbrev Nsearch_counted : List Str := ["residue", "fuel", "trail", "left", "literal"]
theorem sc_search_counted : FnScope Nsearch_counted ["residue", "fuel"] (defScope sQsearch_counted) := ⟨rfl, rfl, rfl, by decide +kernel, rfl, by decide +kernel, by decide +kernel⟩
theorem cal_search_counted (T : Tx K mg base) : Cal P w K mg base 9 "search_counted" (spR K Presearch Posearch) [] := by
  have sc := sc_search_counted
  refine cal_r T 55 47 rfl rfl sc (fun _ _ _ _ _ _ us hl => match us, hl with | [_, _], _ => rfl) (fun as h => ?_) (by decide) fun cdv A outer s H Q E hr => ?_
  · (first | (obtain ⟨_, rfl, _⟩ := h; rfl) | (obtain ⟨_, _, rfl, _⟩ := h; rfl) | (obtain ⟨_, _, _, rfl, _⟩ := h; rfl) | (obtain ⟨_, _, _, _, rfl, _⟩ := h; rfl) | (obtain ⟨_, _, _, _, _, rfl, _⟩ := h; rfl) | (obtain ⟨_, _, _, _, _, _, rfl, _⟩ := h; rfl) | (obtain ⟨_, _, _, _, _, _, _, rfl, _⟩ := h; rfl) | (obtain ⟨_, _, _, _, _, _, _, _, rfl, _⟩ := h; rfl))
  refine ⟨_, (pss_cons (ps_set (i := 2) sc.nd rfl (by first | exact Or.inl rfl | exact Or.inr rfl) (pe_mk (mak_Trail T) hr (by decide) rfl (pa_cons (pv 0) pa_nil)))
    (pss_cons (ps_set (i := 3) sc.nd rfl (by first | exact Or.inl rfl | exact Or.inr rfl) (pe_mt0 (met_Trail_start T) hr (by decide) (pv 2)))
    (pss_cons (ps_while PassesOwn.never (pt_cmpR (op_neD (u64 hr)) (pv 3) (pe_tup pa_nil) (nomark _))
      (pss_one (ps_if (pt_cmpR (op_eqD (u64 hr)) (pv 3) (pe_glob (v := .ref (He.ga K "EMPTY")) rfl T.g_EMPTY rfl) (nomark _))
        (pss_cons (ps_set (i := 4) sc.nd rfl (by first | exact Or.inl rfl | exact Or.inr rfl) (pe_mt0 (met_Trail_back T) hr (by decide) (pv 2)))
        (pss_cons (ps_if (pt_cmp (pc_isN (pv 4)))
          (pss_one (ps_ret (pe_tup (pa_cons (pe_tup (pa_cons pe_str (pa_cons (pe_callTy call_tuple_of (by rfl) T.f_tuple (by decide +kernel) (pa_cons (pe_fld (pv 2) rfl) pa_nil)) pa_nil))) (pa_cons (pe_fld (pv 2) rfl) pa_nil)))))
          pss_nil)
        (pss_one (ps_set (i := 3) sc.nd rfl (by first | exact Or.inl rfl | exact Or.inr rfl) (pe_mt (met_Trail_decide T) hr (by decide) (pv 2) (pa_cons (pe_mt0 (met_Trail_again T) hr (by decide) (pv 2)) (pa_cons (pe_un un_neg (pv 4)) (pa_cons pe_bl pa_nil))))))))
        (pss_cons (ps_if (pt_cmpR op_ge (pe_fld (pv 2) rfl) (pv 1) (nomark _))
          (pss_one (ps_ret (pe_tup (pa_cons (pe_tup (pa_cons pe_str pa_nil)) (pa_cons (pe_fld (pv 2) rfl) pa_nil)))))
          pss_nil)
        (pss_cons (ps_fld (pv 2) (pe_op op_add (pe_fld (pv 2) rfl) pe_int) rfl)
        (pss_one (ps_set (i := 3) sc.nd rfl (by first | exact Or.inl rfl | exact Or.inr rfl) (pe_mt (met_Trail_decide T) hr (by decide) (pv 2) (pa_cons (pv 3) (pa_cons (pe_callB (cr_minT rfl (u65 hr)) (by rfl) T.f_min (by decide +kernel) (pa_cons (pe_c (cal_variables_of T) hr (by decide) rfl (pa_cons (pv 3) pa_nil)) pa_nil)) (pa_cons pe_bl pa_nil)))))))))))
    (pss_one (ps_ret (pe_tup (pa_cons (pe_tup (pa_cons pe_str (pa_cons (pe_mt0 (met_Trail_filling T) hr (by decide) (pv 2)) pa_nil))) (pa_cons (pe_fld (pv 2) rfl) pa_nil)))))))), fun as h k σ R => ?_⟩
  have RR := R
  clear R
  obtain ⟨R, fuel, rfl, hR, hz, hv, hf⟩ := h
  have C := T.trC
  obtain ⟨w0, w1, w2⟩ := RR.sl 0 _ rfl
  try unfold tNext
  try dsimp only
  refine sq ⟨w0, w1, fun x dx hx hdx hne => ⟨x, dx, w0, R, rfl, (w2.same (same_upd hdx)).same (same_upd (by rw [upd_ne hne.symm]; exact hx)), upd_same, fun H1 r l e1 hr1 hl1 h1 => ⟨rfl, ?_⟩⟩⟩
  have ed : Same H (upd H dx (.own x)) := same_upd hdx
  have hx' : upd H dx (.own x) x = none := by rw [upd_ne hne.symm]; exact hx
  have eG : Same H (upd (upd H dx (.own x)) x (.ins (He.ga K "Trail") dx [])) := ed.trans (same_upd hx')
  have r0 : H r = none := by
    cases hh : H r with
    | none => rfl
    | some o => have z := (eG _ _ hh).symm.trans hr1; cases z
  have l0 : H l = none := by
    cases hh : H l with
    | none => rfl
    | some o => have z := (eG _ _ hh).symm.trans hl1; cases z
  have R1 : Rel K H H H1 (σ.set 2 (some (.ref x))) [.t (dR R), .t (.int fuel), .v (.ref x), .any, .any] := (((RR.same eG).offs [x] e1 (by simpa using hx) (fun a ha xs e => by obtain rfl := List.mem_singleton.mp ha; rw [upd_same] at e; cases e) (fun i a c q => by
    rcases i with _ | _ | _ | _ | _ | i <;> simp [slots, slOf] at q)).set_v 2 (.ref x)).eq rfl
  obtain ⟨dx1, u1, a1, a2⟩ := h1.obj
  try unfold tNext
  try dsimp only
  refine sq ⟨.ref x, R1.sl 2 _ rfl, x, dx1, _, rfl, a1, rfl, x, r, l, R, [], [], 0, rfl, hR, h1, fun v H2 l' e2 hl' h2 t2 => ?_⟩
  have l'0 : H l' = none := by
    cases hh : H l' with
    | none => rfl
    | some o => rw [R1.base _ _ hh] at hl'; cases hl'
  have R2 : Rel K H H H2 ((σ.set 2 (some (.ref x))).set 3 (some v)) [.t (dR R), .t (.int fuel), .v (.ref x), .t (dR (leftOf R [])), .any] := ((R1.offs [x] e2 (by simpa using hx) (fun a ha xs e => by obtain rfl := List.mem_singleton.mp ha; rw [a1] at e; cases e) (fun i a c q => by
    rcases i with _ | _ | _ | _ | _ | i <;> simp at q)).set_t 3 t2).eq rfl
  try unfold tNext
  try dsimp only
  refine sq (s_while (ι := List (Int × Bool)) (fun ds _ σ' H' => ISc K H H x R fuel ds σ' H') (fun ds => mu2 (ds.map (·.2))) (z0 := []) ⟨r, l', [], 0, R2, h2, r0, l'0, LvI.nil, by decide, by decide, by decide⟩ fun ds σ3 H3 ⟨r, l, rows, dec, R3, h3, r0, l0, hl, hd0, hd1, hrw⟩ => ?_)
  have hlen : ds.length ≤ 2 := by have := LvI.len _ rfl hl; omega
  have x3 : σ3[2]? = some (some (.ref x)) := R3.sl 2 _ rfl
  refine ⟨_, eb_t (ET.eq (et_neD (et_v R3 rfl) (et_tup (ds := []) ea_nil) (shp_dR _).shaped (shp_dR []).shaped) (congrArg PyData.bool (congrArg Bool.not (eqv_dR (leftOf R ds) [])))), fun hb H4 e4 => ?_, fun hb H4 e4 => ?_⟩
  · have hne : leftOf R ds ≠ [] := by simpa using hb
    have R4 := R3.same e4
    have h4 := h3.same e4
    refine s_if (eb_t (ET.eq (et_eqD (et_v R4 rfl) (et_EMPTY T) (shp_dR _).shaped (shp_dR [[]]).shaped) (congrArg PyData.bool (eqv_dR (leftOf R ds) [[]])))) (fun hb5 H5 e5 => ?_) fun hb5 H5 e5 => ?_
    · have hE : leftOf R ds = [[]] := by simpa using hb5
      have R5 := R4.same e5
      have h5 := h4.same e5
      have hun : ¬ Sat (leftOf R ds) := by rw [hE]; exact not_sat_empty
      obtain ⟨dx5, w5, a51, a52⟩ := h5.obj
      have hF : ∀ a ∈ [r, l], H a = none := fun a ha => by
        rcases List.mem_cons.mp ha with rfl | ha
        · exact r0
        · obtain rfl := List.mem_singleton.mp ha; exact l0
      try unfold tNext
      try dsimp only
      refine sq ⟨.ref x, x3, x, dx5, _, rfl, a51, rfl, x, r, l, R, rows, ds, dec, rfl, by omega, by omega, h5, fun H6 pre n suf rows' hds hsuf e6 h6 hr6 => ?_, fun H6 rows' hall e6 h6 hr6 => ?_⟩
      · have R6 : Rel K H H H6 (σ3.set 4 (some (.int n))) [.t (dR R), .t (.int fuel), .v (.ref x), .t (dR (leftOf R ds)), .t (.int n)] := ((R5.offs [r, l] e6 hF h5.nt (fun i a c q => by
          rcases i with _ | _ | _ | _ | _ | i <;> simp at q)).set_t 4 (.int n)).eq rfl
        subst hds
        obtain ⟨n0, n1, n2⟩ := hl pre n false suf rfl
        have hlp := hl.pre
        have hl6 : LvI R (pre ++ [(n, false)] ++ suf) := by rw [List.append_assoc]; exact hl
        have hun6 : ¬ Sat (leftOf R (pre ++ [(n, false)] ++ suf)) := by rw [List.append_assoc]; exact hun
        have hns : ¬ Sat (under (leftOf R pre) n) := fun q => LvI.unsat hz _ rfl hl6 hsuf hun6 ((sat_left_snoc hz).mpr q)
        have hia : iabs (-n) = iabs n := by unfold iabs; split <;> split <;> omega
        have hlp2 : LvI R (pre ++ [(-n, true)]) := hlp.snoc (by omega) (by rw [hia]; exact n1) (fun _ => by rw [Int.neg_neg]; exact hns)
        have hmu : mu2 ((pre ++ [(-n, true)]).map (·.2)) < mu2 ((pre ++ (n, false) :: suf).map (·.2)) := by
          rw [List.map_append, List.map_append]
          exact mu2_over (by simp at hlen ⊢; omega) fun b hb => by
            obtain ⟨z, hz, rfl⟩ := List.mem_map.mp hb
            exact hsuf z hz
        have hp2 : pre.length ≤ 2 := by simp at hlen; omega
        try unfold tNext
        try dsimp only
        refine sq (s_if (b := false) (fun H7 e7 Q7 k7 => ?_) (fun hb => by cases hb) fun _ H7 e7 => ?_)
        · exact ⟨.int n, (by obtain ⟨u, u1, u2⟩ := R6.sl 4 _ rfl; cases u2; exact u1), false, rfl, k7 H7 (.refl _)⟩
        · have R7 := R6.same e7
          have h7 := h6.same e7
          have x7 : (σ3.set 4 (some (.int n)))[2]? = some (some (.ref x)) := R7.sl 2 _ rfl
          obtain ⟨dx7, w7, a71, a72⟩ := h7.obj
          refine ⟨.ref x, x7, x, dx7, _, rfl, a71, rfl, ?_⟩
          refine (ea_t (et_again hR h7 (by omega) x7) (ea_t (et_neg (et_v R7 rfl)) (ea_t et_bl ea_nil))) H7 (.refl _) _ fun vs H8 e8 t8 => ?_
          obtain ⟨v8, rfl, u8⟩ := ars3 t8
          have h8 := h7.same e8
          refine ⟨x, r, l, R, rows', lvs0 pre, dec, v8, leftOf R pre, -n, true, rfl, u8, leftOf_ok hR pre, by simp; omega, h8, fun v9 H9 e9 h9 t9 => ?_⟩
          have R9 : Rel K H H H9 ((σ3.set 4 (some (.int n))).set 3 (some v9)) [.t (dR R), .t (.int fuel), .v (.ref x), .t (dR (leftOf R (pre ++ [(-n, true)]))), .any] := ((((R7.same e8).offs [l] e9 (by simpa using l0) h8.ntl (fun i a c q => by
            rcases i with _ | _ | _ | _ | _ | i <;> simp at q)).set_t 3 t9).forget 4).eq (by rw [leftOf_snoc]; rfl)
          refine ⟨_, hmu, r, l, rows', dec, R9, by rw [show lvs0 (pre ++ [(-n, true)]) = lvs0 pre ++ [(some (-n), true)] from by simp [lvs0, lvD]]; exact h9, r0, l0, hlp2, hd0, by omega, by simp at hlen hr6 hmu hrw ⊢; omega⟩
      · have R6 : Rel K H H H6 (σ3.set 4 (some .non)) [.t (dR R), .t (.int fuel), .v (.ref x), .t (dR (leftOf R ds)), .v .non] := ((R5.offs [r, l] e6 hF h5.nt (fun i a c q => by
          rcases i with _ | _ | _ | _ | _ | i <;> simp at q)).set_v 4 .non).eq rfl
        have hns : ¬ Sat R := fun q => LvI.unsat hz (pre := []) _ rfl hl hall hun ((sat_prop hz).mpr q)
        try unfold tNext
        try dsimp only
        refine sq (s_if (b := true) (fun H7 e7 Q7 k7 => ?_) (fun _ H7 e7 => ?_) fun hb => by cases hb)
        · exact ⟨.non, R6.sl 4 _ rfl, true, rfl, k7 H7 (.refl _)⟩
        · have R7 := R6.same e7
          have h7 := h6.same e7
          have x7 : (σ3.set 4 (some .non))[2]? = some (some (.ref x)) := R7.sl 2 _ rfl
          refine s_retT R7 (et_tup (ds := [_, .int dec]) (ea_t (et_tup (ds := [.str (Tg.s .refuted), _]) (ea_t et_str (ea_t (et_tupleL (e1_rows C h7 x7)) ea_nil))) (ea_t (et_decided C h7 x7) ea_nil))) fun v8 H8 e8 t8 => ?_
          exact k (.t _) v8 H8 ⟨R, fuel, _, dec, .refuted, rfl, rfl, hd0, by omega, shp_rows rows', .inr ⟨rfl, hns⟩⟩ e8 t8
    · have hE : leftOf R ds ≠ [[]] := by simpa using hb5
      have R5 := R4.same e5
      have h5 := h4.same e5
      try unfold tNext
      try dsimp only
      refine sq (s_if (eb_t (et_ib (et_decided C h5 x3) (et_v R5 rfl))) (fun hb6 => ?_) fun hb6 H6 e6 => ?_)
      · exfalso
        have := of_decide_eq_true hb6
        omega
      have R6 := R5.same e6
      have h6 := h5.same e6
      have hnE : hasE (leftOf R ds) = false := by
        cases q : hasE (leftOf R ds) with
        | false => rfl
        | true =>
          exfalso
          apply hE
          rcases ds.eq_nil_or_concat with rfl | ⟨d', z, rfl⟩
          · exact prop_hasE _ (Nat.le_refl _) q
          · rw [List.concat_eq_append, leftOf_snoc] at q ⊢
            exact prop_hasE _ (Nat.le_refl _) q
      have hvn := vars_ne hne hnE
      have hvm := minL_in hvn
      have hvp := varsOf_pos (nz_leftOf hz ds) hvm
      have hvi : iabs (minL (varsOf (leftOf R ds))) = minL (varsOf (leftOf R ds)) := by unfold iabs; split <;> omega
      have hlt : ds.length < 2 := by
        have h0 : 0 < (varsOf (leftOf R ds)).length := List.length_pos_of_mem hvm
        have := LvI.len _ rfl hl
        omega
      have hmu : mu2 ((ds ++ [(minL (varsOf (leftOf R ds)), false)]).map (·.2)) < mu2 (ds.map (·.2)) := by
        rw [List.map_append]
        exact mu2_down (by simpa using hlt)
      try unfold tNext
      try dsimp only
      refine sq ((et_i (et_decided C h6 x3) et_int) H6 (.refl _) _ fun v7 H7 e7 t7 => ?_)
      have R7 := R6.same e7
      have h7 := h6.same e7
      obtain rfl := t7.i
      obtain ⟨dx7, w7, a71, a72⟩ := h7.obj
      refine ⟨.ref x, x3, x, _, dx7, trF w7 r l dec, rfl, a71, C.c, C.n4, (show (4 : Nat) < 1000 by decide), ?_⟩
      have h8 := h7.decd a71 (dec + 1)
      have R8 := R7.other (q := x) (o := .ins (He.ga K "Trail") dx7 (putF "decided" (.int (dec + 1)) (trF w7 r l dec))) hx h7.ntx (fun i a c q => by
        rcases i with _ | _ | _ | _ | _ | i <;> simp at q)
      generalize upd H7 x (.ins (He.ga K "Trail") dx7 (putF "decided" (.int (dec + 1)) (trF w7 r l dec))) = H8 at h8 R8 ⊢
      obtain ⟨dx8, w8, a81, a82⟩ := h8.obj
      have hRl := leftOf_ok hR ds
      refine ⟨.ref x, x3, x, dx8, _, rfl, a81, rfl, ?_⟩
      refine (ea_t (d := dR (leftOf R ds)) (et_v R8 (i := 3) rfl) (ea_t (et_minT (ns := varsOf (leftOf R ds)) (et_call (P := Pvariables_of) (ea_t (d := dR (leftOf R ds)) (et_v R8 (i := 3) rfl) ea_nil) ⟨leftOf R ds, rfl, Nat.le_trans hRl.2.1 (by decide), hRl.2.2, rfl⟩) hvn) (ea_t et_bl ea_nil))) H8 (.refl _) _ fun vs H9 e9 t9 => ?_
      obtain ⟨v9, rfl, u9⟩ := ars3 t9
      have h9 := h8.same e9
      refine ⟨x, r, l, R, rows, lvs0 ds, dec + 1, v9, leftOf R ds, _, false, rfl, u9, hRl, by simp; omega, h9, fun v10 H10 e10 h10 t10 => ?_⟩
      have R10 : Rel K H H H10 (σ3.set 3 (some v10)) [.t (dR R), .t (.int fuel), .v (.ref x), .t (dR (leftOf R (ds ++ [(minL (varsOf (leftOf R ds)), false)]))), .any] := (((R8.same e9).offs [l] e10 (by simpa using l0) h9.ntl (fun i a c q => by
        rcases i with _ | _ | _ | _ | _ | i <;> simp at q)).set_t 3 t10).eq (by rw [leftOf_snoc]; rfl)
      refine ⟨_, hmu, r, l, rows, dec + 1, R10, by rw [show lvs0 (ds ++ [(minL (varsOf (leftOf R ds)), false)]) = lvs0 ds ++ [(some (minL (varsOf (leftOf R ds))), false)] from by simp [lvs0, lvD]]; exact h10, r0, l0, hl.snoc (by omega) (by rw [hvi]; exact hvm) (fun q => by cases q), by omega, by omega, by omega⟩
  · have hnil : leftOf R ds = [] := by simpa using hb
    have R4 := R3.same e4
    have h4 := h3.same e4
    have hs : Sat R := LvI.sat hz _ rfl hl (by rw [hnil]; exact sat_nil)
    obtain ⟨dx4, w4, a41, a42⟩ := h4.obj
    refine ⟨.ref x, x3, x, dx4, _, rfl, a41, rfl, x, r, l, R, rows, ds, dec, rfl, hR, by omega, h4, fun v5 H5 fs e5 hfs t5 => ⟨sz1000 (by simp), fun p hp => ?_⟩⟩
    have e6 := e5.trans (same_upd (o := .tup [.str "some", v5]) hp)
    have t6 : Td K (upd H5 p (.tup [.str "some", v5])) (.ref p) (.tuple [.str (Tg.s .some_), .tuple fs]) := .tup (.inl upd_same) (.cons (.str _) (.cons (t5.same (same_upd hp)) .nil))
    generalize upd H5 p (.tup [.str "some", v5]) = H6 at e6 t6 ⊢
    refine (et_decided C (h4.same e6) x3) H6 (.refl _) _ fun v7 H7 e7 t7 => ⟨sz1000 (by simp), fun q hq => ?_⟩
    refine k (.t (.tuple [.tuple [.str (Tg.s .some_), .tuple fs], .int dec])) _ _ ⟨R, fuel, _, dec, .some_, rfl, rfl, hd0, by omega, shp_intsT hfs, .inl ⟨rfl, hs⟩⟩ (((R4.base.trans e6).trans e7).trans (same_upd hq)) (.tup (.inl upd_same) (.cons ((t6.same e7).same (same_upd hq)) (.cons (t7.same (same_upd hq)) .nil)))
end
end CW

/-! Plain: plans, their weight, their children. -/
namespace CW
open PySem
theorem len2 {α : Type} {ns : List α} (h : ns.length = 2) : ∃ n m, ns = [n, m] := by
  match ns, h with
  | [n, m], _ => exact ⟨n, m, rfl⟩
/-- what a plan of a residue is: the tag, the first items, the children's residues, the rule -/
inductive PlanOk (S : List Int) (p3 : Bool) (R : Rs) : Tg → List PyData → List Rs → (List Nat → Rule) → Prop
  | no (h : hasE R = true) : PlanOk S p3 R .no [] [] fun _ => .no
  | yes (h : R = []) : PlanOk S p3 R .yes [] [] fun _ => .yes
  | unit (l : Int) (us : List Int) (h : hasE R = false) (h2 : unitsOf R = l :: us) : PlanOk S p3 R .unit [.int l] [under R l] fun ns => .unit l (ns.headD 0)
  | less (h : hasE R = false) (h2 : unitsOf R = []) (h3 : p3 = true) (h4 : lessened R ≠ R) : PlanOk S p3 R .less [] [lessened R] fun ns => .less (ns.headD 0)
  | some_ (d : PyData) (h : Shp 20 d) (h2 : shownOf S R = []) (h3 : Sat R) : PlanOk S p3 R .some_ [d] [] fun _ => .some_ d
  | refuted (d : PyData) (h : Shp 20 d) (h3 : ¬ Sat R) : PlanOk S p3 R .refuted [d] [] fun _ => .refuted d
  | parts (L : Int → Int) (h : hasE R = false) (h2 : unitsOf R = []) (h3 : p3 = true → lessened R = R) (U : Unif L R) (h4 : 1 < (partsOf (kap L) R).length) : PlanOk S p3 R .parts [] (partsOf (kap L) R) fun ns => .parts ns
  | more (l : Int) (h : hasE R = false) (h2 : unitsOf R = []) (h3 : p3 = true → lessened R = R) (h4 : iabs l ∈ shownOf S R) (h5 : followsB R [l] = true) : PlanOk S p3 R .more [.tuple [.int l]] [withRow R [l]] fun ns => .more l (ns.headD 0)
  | choice (v : Int) (h : hasE R = false) (h2 : unitsOf R = []) (h3 : p3 = true → lessened R = R) (h4 : v ∈ shownOf S R) : PlanOk S p3 R .choice [.int v] [under R v, under R (-v)] fun ns => .choice v (ns.headD 0) (ns.getD 1 0)
/-- the rule as made() lays it -/
def ruleD (t : Tg) (a : List PyData) (ns : List Nat) : PyData := if t = .parts then .tuple [.str (Tg.s .parts), .tuple (ns.map dN)] else .tuple (.str t.s :: (a ++ ns.map dN))
section
variable {S : List Int} {p3 : Bool} {R : Rs} {t : Tg} {a : List PyData} {ks : List Rs} {mk : List Nat → Rule} {ns : List Nat}
theorem PlanOk.enc (h : PlanOk S p3 R t a ks mk) (hl : ns.length = ks.length) : encR (mk ns) = ruleD t a ns := by
  cases h with
  | no h => obtain rfl := List.length_eq_zero_iff.mp hl; rfl
  | yes h => obtain rfl := List.length_eq_zero_iff.mp hl; rfl
  | some_ d => obtain rfl := List.length_eq_zero_iff.mp hl; rfl
  | refuted d => obtain rfl := List.length_eq_zero_iff.mp hl; rfl
  | unit l us h h2 => obtain ⟨n, rfl⟩ := List.length_eq_one_iff.mp hl; rfl
  | less h h2 h3 h4 => obtain ⟨n, rfl⟩ := List.length_eq_one_iff.mp hl; rfl
  | more l h h2 h3 h4 h5 => obtain ⟨n, rfl⟩ := List.length_eq_one_iff.mp hl; rfl
  | parts L => rfl
  | choice v =>
    obtain ⟨n, m, rfl⟩ := len2 hl
    rfl
theorem PlanOk.kids (h : PlanOk S p3 R t a ks mk) (hl : ns.length = ks.length) : (mk ns).kids = ns := by
  cases h with
  | no h => obtain rfl := List.length_eq_zero_iff.mp hl; rfl
  | yes h => obtain rfl := List.length_eq_zero_iff.mp hl; rfl
  | some_ d => obtain rfl := List.length_eq_zero_iff.mp hl; rfl
  | refuted d => obtain rfl := List.length_eq_zero_iff.mp hl; rfl
  | unit l us h h2 => obtain ⟨n, rfl⟩ := List.length_eq_one_iff.mp hl; rfl
  | less h h2 h3 h4 => obtain ⟨n, rfl⟩ := List.length_eq_one_iff.mp hl; rfl
  | more l h h2 h3 h4 h5 => obtain ⟨n, rfl⟩ := List.length_eq_one_iff.mp hl; rfl
  | parts L => rfl
  | choice v =>
    obtain ⟨n, m, rfl⟩ := len2 hl
    rfl
theorem PlanOk.ok (h : PlanOk S p3 R t a ks mk) (hl : ns.length = ks.length) (h9 : ks.length ≤ 900) : (mk ns).ok := by
  cases h with
  | some_ d h => exact h
  | refuted d h => exact h
  | parts L => show ns.length ≤ 900; omega
  | _ => trivial
/-- what keeps a residue small and plain -/
structure RB (S : List Int) (R : Rs) : Prop where
  nz : NZ R
  can : CanR R
  v7 : (varsOf R).length ≤ 7
  hid : ((varsOf R).filter fun v => !S.contains v).length ≤ 2
theorem rb_sub {Q : Rs} (h : RB S R) (hn : NZ Q) (hc : CanR Q) (hv : ∀ v ∈ varsOf Q, v ∈ varsOf R) : RB S Q := by
  refine ⟨hn, hc, Nat.le_trans (nodup_sub_len (nodup_varsOf Q) hv) h.v7, Nat.le_trans (nodup_sub_len ((nodup_varsOf Q).filter _) fun v hm => ?_) h.hid⟩
  obtain ⟨h1, h2⟩ := List.mem_filter.mp hm
  exact List.mem_filter.mpr ⟨hv v h1, h2⟩
theorem mem_withRow {c z : Cl} : z ∈ withRow R c ↔ z = c ∨ z ∈ R := by
  unfold withRow
  split
  · rename_i h
    obtain ⟨y, hy, e⟩ := List.any_eq_true.mp h
    have : y = c := by simpa using e
    subst this
    exact ⟨.inr, fun q => q.elim (fun e => e ▸ hy) id⟩
  · rw [mem_residueOf, List.mem_append, List.mem_singleton]
    exact Or.comm
theorem len_withRow (c : Cl) : (withRow R c).length ≤ R.length + 1 := by
  unfold withRow
  split
  · omega
  · exact Nat.le_trans (len_residueOf _) (by simp)
theorem rb_kid (h : PlanOk S p3 R t a ks mk) (hR : RB S R) {k : Rs} (hk : k ∈ ks) : RB S k ∧ k.length ≤ R.length + 1 := by
  cases h with
  | no h => cases hk
  | yes h => cases hk
  | some_ d => cases hk
  | refuted d => cases hk
  | unit l us h h2 =>
    obtain rfl := List.mem_singleton.mp hk
    exact ⟨rb_sub hR (nz_under l hR.nz) (can_under l hR.can) fun v hv => (vars_under hv).1, Nat.le_trans (len_under R l) (by omega)⟩
  | less h h2 h3 h4 =>
    obtain rfl := List.mem_singleton.mp hk
    have hs : ∀ c ∈ lessened R, c ∈ R := fun c hc => (mem_lessened.mp hc).1
    exact ⟨rb_sub hR (fun c hc => hR.nz c (hs c hc)) (fun c hc => hR.can c (hs c hc)) fun v hv => vars_of_sub hs hv, Nat.le_trans (List.length_filter_le _ _) (by omega)⟩
  | parts L h h2 h3 U h4 =>
    have hs := parts_sub hk
    refine ⟨rb_sub hR (fun c hc => hR.nz c (hs c hc)) (fun c hc => hR.can c (hs c hc)) fun v hv => vars_of_sub hs hv, ?_⟩
    obtain ⟨k', _, rfl⟩ := mem_partsOf.mp hk
    exact Nat.le_trans (len_residueOf _) (Nat.le_trans (List.length_filter_le _ _) (by omega))
  | more l h h2 h3 h4 h5 =>
    obtain rfl := List.mem_singleton.mp hk
    have hp := varsOf_pos hR.nz (mem_shownOf.mp h4).1
    refine ⟨rb_sub hR (fun c hc z hz => ?_) (fun c hc => ?_) (fun v hv => ?_), len_withRow [l]⟩
    · rcases mem_withRow.mp hc with rfl | hc
      · obtain rfl := List.mem_singleton.mp hz
        intro e
        subst e
        exact absurd hp (by decide)
      · exact hR.nz c hc z hz
    · rcases mem_withRow.mp hc with rfl | hc
      · exact List.pairwise_singleton _ _
      · exact hR.can c hc
    · obtain ⟨c, hc, z, hz, rfl⟩ := mem_varsOf.mp hv
      rcases mem_withRow.mp hc with rfl | hc
      · obtain rfl := List.mem_singleton.mp hz
        exact (mem_shownOf.mp h4).1
      · exact mem_varsOf.mpr ⟨c, hc, z, hz, rfl⟩
  | choice v h h2 h3 h4 =>
    rcases List.mem_cons.mp hk with rfl | hk
    · exact ⟨rb_sub hR (nz_under v hR.nz) (can_under v hR.can) fun v hv => (vars_under hv).1, Nat.le_trans (len_under R v) (by omega)⟩
    · obtain rfl := List.mem_singleton.mp hk
      exact ⟨rb_sub hR (nz_under _ hR.nz) (can_under _ hR.can) fun v hv => (vars_under hv).1, Nat.le_trans (len_under R (-v)) (by omega)⟩
end
/-! ### the weight of a residue -/
def Wt (p3 : Bool) (R : Rs) : Nat := if hasE R = true then 1 else if unitsOf R ≠ [] then 5 * 2 ^ (varsOf R).length - 5 else if p3 = true ∧ lessened R ≠ R then 5 * 2 ^ (varsOf R).length - 3 else 5 * 2 ^ (varsOf R).length - 4
section
variable {S : List Int} {p3 : Bool} {R : Rs} {t : Tg} {a : List PyData} {ks : List Rs} {mk : List Nat → Rule} {ns : List Nat}
theorem pow1 (n : Nat) : 1 ≤ 2 ^ n := Nat.one_le_two_pow
theorem units_var (h : unitsOf R ≠ []) : 1 ≤ (varsOf R).length := by
  cases q : unitsOf R with
  | nil => exact absurd q h
  | cons u us =>
    have h0 : [u] ∈ R := mem_unitsOf.mp (by rw [q]; exact List.mem_cons_self)
    exact List.length_pos_of_mem (mem_varsOf.mpr ⟨[u], h0, u, by simp, rfl⟩)
theorem pow2 {n : Nat} (h : 1 ≤ n) : 2 ≤ 2 ^ n := by
  calc 2 = 2 ^ 1 := rfl
    _ ≤ 2 ^ n := Nat.pow_le_pow_right (by decide) h
theorem Wt_le (p3 : Bool) (R : Rs) : Wt p3 R ≤ 5 * 2 ^ (varsOf R).length - 3 := by
  have := pow1 (varsOf R).length
  unfold Wt
  split
  · omega
  · split
    · omega
    · split <;> omega
theorem Wt_pos (p3 : Bool) (R : Rs) : 1 ≤ Wt p3 R := by
  have := pow1 (varsOf R).length
  unfold Wt
  split
  · omega
  · split
    · rename_i h; have := pow2 (units_var h); omega
    · split <;> omega
theorem Wt_less {n : Nat} (h : (varsOf R).length < n) (p3 : Bool) : Wt p3 R + Wt p3 R + 6 ≤ 5 * 2 ^ n := by
  have h1 := Wt_le p3 R
  have h2 : 2 ^ ((varsOf R).length + 1) ≤ 2 ^ n := Nat.pow_le_pow_right (by decide) h
  have := pow1 (varsOf R).length
  rw [Nat.pow_succ] at h2
  omega
theorem Wt_plain (h : hasE R = false) (h2 : unitsOf R = []) (h3 : p3 = true → lessened R = R) : Wt p3 R = 5 * 2 ^ (varsOf R).length - 4 := by
  unfold Wt
  rw [if_neg (by rw [h]; decide), if_neg (fun q => q h2), if_neg fun q => q.2 (h3 q.1)]
theorem pow_mono {n m : Nat} (h : n ≤ m) : 2 ^ n ≤ 2 ^ m := Nat.pow_le_pow_right (by decide) h
theorem pow_add_le {n m : Nat} (h : 1 ≤ n) (h2 : 1 ≤ m) : 2 ^ n + 2 ^ m ≤ 2 ^ (n + m) := by
  rw [Nat.pow_add]
  have a1 := pow2 h
  have a2 := pow2 h2
  generalize 2 ^ n = x at *
  generalize 2 ^ m = y at *
  have : 2 * y ≤ x * y := Nat.mul_le_mul_right y a1
  have : 2 * x ≤ x * y := by rw [Nat.mul_comm x y]; exact Nat.mul_le_mul_right x a2
  omega
theorem parts_sum (f : Int → Nat) : ∀ ks : List Int, ks ≠ [] → (∀ k ∈ ks, 1 ≤ f k) → (ks.map fun k => 5 * 2 ^ f k - 4).sum + (ks.length - 1) ≤ 5 * 2 ^ (ks.map f).sum - 4 ∧ 1 ≤ (ks.map f).sum
  | [], h, _ => absurd rfl h
  | [k], _, h => by simpa using h k (by simp)
  | k :: j :: ks, _, h => by
    obtain ⟨i1, i2⟩ := parts_sum f (j :: ks) (by simp) fun z hz => h z (List.mem_cons_of_mem _ hz)
    have h1 := h k List.mem_cons_self
    have := pow_add_le h1 i2
    have := pow2 h1
    have := pow2 i2
    simp only [List.map_cons, List.sum_cons, List.length_cons] at i1 i2 this ⊢
    simp only [List.map_cons, List.sum_cons] at *
    omega
/-- a node and its children weigh no more -/
theorem Wt_kids (h : PlanOk S p3 R t a ks mk) (hR : RB S R) : 1 + (ks.map (Wt p3)).sum ≤ Wt p3 R := by
  have hp := Wt_pos p3 R
  cases h with
  | no h => simpa using hp
  | yes h => simpa using hp
  | some_ d => simpa using hp
  | refuted d => simpa using hp
  | unit l us h h2 =>
    have h0 : [l] ∈ R := mem_unitsOf.mp (by rw [h2]; exact List.mem_cons_self)
    have hl := vars_under_lt (R := R) (l := l) (mem_varsOf.mpr ⟨[l], h0, l, by simp, rfl⟩)
    have := Wt_less hl p3
    have e : Wt p3 R = 5 * 2 ^ (varsOf R).length - 5 := by
      unfold Wt
      rw [if_neg (by rw [h]; decide), if_pos (by rw [h2]; simp)]
    have := Wt_pos p3 (under R l)
    simp only [List.map_cons, List.map_nil, List.sum_cons, List.sum_nil]
    omega
  | less h h2 h3 h4 =>
    have hs : ∀ c ∈ lessened R, c ∈ R := fun c hc => (mem_lessened.mp hc).1
    have e : Wt p3 R = 5 * 2 ^ (varsOf R).length - 3 := by
      unfold Wt
      rw [if_neg (by rw [h]; decide), if_neg (fun q => q h2), if_pos ⟨h3, h4⟩]
    have e2 := Wt_plain (p3 := p3) (hasE_sub hs h) (units_sub hs h2) fun _ => less_idem R
    have := pow_mono (nodup_sub_len (nodup_varsOf (lessened R)) fun v hv => vars_of_sub hs hv)
    have := pow1 (varsOf R).length
    simp only [List.map_cons, List.map_nil, List.sum_cons, List.sum_nil]
    omega
  | parts L h h2 h3 U h4 =>
    rw [Wt_plain h h2 h3]
    have hpl : ∀ k ∈ sortI (keysOf (kap L) R), Wt p3 (residueOf (grp (kap L) R k)) = 5 * 2 ^ (varsOf (residueOf (grp (kap L) R k))).length - 4 ∧ 1 ≤ (varsOf (residueOf (grp (kap L) R k))).length := fun k hk => by
      have hm : residueOf (grp (kap L) R k) ∈ partsOf (kap L) R := List.mem_map.mpr ⟨k, hk, rfl⟩
      have hs := parts_sub hm
      have hE := hasE_sub hs h
      refine ⟨Wt_plain hE (units_sub hs h2) fun q => less_of_sub (h3 q) hs, ?_⟩
      have := vars_ne (parts_ne hm) hE
      exact List.length_pos_iff.mpr this
    unfold partsOf at h4 ⊢
    rw [List.length_map] at h4
    rw [List.map_map]
    have e : ((sortI (keysOf (kap L) R)).map (Wt p3 ∘ fun k => residueOf (grp (kap L) R k))).sum = ((sortI (keysOf (kap L) R)).map fun k => 5 * 2 ^ (varsOf (residueOf (grp (kap L) R k))).length - 4).sum := by
      congr 1
      exact List.map_congr_left fun k hk => (hpl k hk).1
    rw [e]
    obtain ⟨i1, _⟩ := parts_sum (fun k => (varsOf (residueOf (grp (kap L) R k))).length) _ (by intro q; rw [q] at h4; simp at h4) fun k hk => (hpl k hk).2
    have hl : ((sortI (keysOf (kap L) R)).map fun k => (varsOf (residueOf (grp (kap L) R k))).length).sum ≤ (varsOf R).length := by
      have := nodup_sub_len (zs := varsOf R) (vars_parts U _ (keys_nodup (kap L) R)) fun v hv => by
        obtain ⟨k, hk, hv⟩ := List.mem_flatMap.mp hv
        exact vars_of_sub (fun c hc => (mem_grp.mp hc).1) hv
      rw [List.length_flatMap] at this
      exact this
    have := pow_mono hl
    have := pow1 ((sortI (keysOf (kap L) R)).map fun k => (varsOf (residueOf (grp (kap L) R k))).length).sum
    omega
  | more l h h2 h3 h4 h5 =>
    rw [Wt_plain h h2 h3]
    have hv : ∀ v ∈ varsOf (withRow R [l]), v ∈ varsOf R := fun v hv => by
      obtain ⟨c, hc, z, hz, rfl⟩ := mem_varsOf.mp hv
      rcases mem_withRow.mp hc with rfl | hc
      · obtain rfl := List.mem_singleton.mp hz
        exact (mem_shownOf.mp h4).1
      · exact mem_varsOf.mpr ⟨c, hc, z, hz, rfl⟩
    have hu : unitsOf (withRow R [l]) ≠ [] := fun e => by
      have : l ∈ unitsOf (withRow R [l]) := mem_unitsOf.mpr (mem_withRow.mpr (.inl rfl))
      rw [e] at this
      cases this
    have hE : hasE (withRow R [l]) = false := by
      cases q : hasE (withRow R [l]) with
      | false => rfl
      | true =>
        rcases mem_withRow.mp (hasE_iff.mp q) with e | e
        · cases e
        · rw [← h]; exact (hasE_iff.mpr e).symm
    have e : Wt p3 (withRow R [l]) = 5 * 2 ^ (varsOf (withRow R [l])).length - 5 := by
      unfold Wt
      rw [if_neg (by rw [hE]; decide), if_pos hu]
    have := pow_mono (nodup_sub_len (nodup_varsOf _) hv)
    have := pow2 (units_var hu)
    simp only [List.map_cons, List.map_nil, List.sum_cons, List.sum_nil]
    omega
  | choice v h h2 h3 h4 =>
    rw [Wt_plain h h2 h3]
    have hv := (mem_shownOf.mp h4).1
    have hp := varsOf_pos hR.nz hv
    have i1 : iabs v = v := by unfold iabs; split <;> omega
    have i2 : iabs (-v) = v := by unfold iabs; split <;> omega
    have a1 := Wt_less (vars_under_lt (R := R) (l := v) (by rw [i1]; exact hv)) p3
    have a2 := Wt_less (vars_under_lt (R := R) (l := -v) (by rw [i2]; exact hv)) p3
    simp only [List.map_cons, List.map_nil, List.sum_cons, List.sum_nil]
    omega
end
end CW

set_option maxRecDepth 100000
set_option maxHeartbeats 4000000
/-! Maker: left, searched. -/
namespace CW
open PySem PySem.Spec PyProof.Rows L2
open C8 (Cal Met Mak pe_c pe_mk pe_mt pe_mt0)
def mkF (v1 v2 : V) (u : Int) (n kn : Addr) : List (Str × V) := [("formula", v1), ("policy", v2), ("fuel", .int 100000), ("used", .int u), ("nodes", .ref n), ("known", .ref kn)]
/-- the maker at y: what it was made of, the fuel used -/
def MkO (K : PySem.W.Frag) (H : Hp) (y n kn : Addr) (S Hd : List Int) (R0 : Rs) (p : Pol) (u : Int) : Prop := ∃ dx v1 v2, H y = some (.ins (He.ga K "Maker") dx (mkF v1 v2 u n kn)) ∧ Td K H v1 (dF S Hd R0) ∧ Td K H v2 (dP p)
structure MkC (K : PySem.W.Frag) : Prop where
  c : Cls K (He.ga K "Maker")
  n1 : NoAttr K (He.ga K "Maker") "formula"
  n2 : NoAttr K (He.ga K "Maker") "policy"
  n3 : NoAttr K (He.ga K "Maker") "fuel"
  n4 : NoAttr K (He.ga K "Maker") "used"
  n5 : NoAttr K (He.ga K "Maker") "nodes"
  n6 : NoAttr K (He.ga K "Maker") "known"
theorem Tx.mkC {K : PySem.W.Frag} {mg : Str → Option Value} {base : Heap} (T : Tx K mg base) : MkC K := ⟨He.cls_ok (T.fa 80), He.noat_ok (T.fa 86), He.noat_ok (T.fa 87), He.noat_ok (T.fa 88), He.noat_ok (T.fa 89), He.noat_ok (T.fa 90), He.noat_ok (T.fa 91)⟩
section
variable {K : PySem.W.Frag} {H H' : Hp} {y n kn : Addr} {S Hd : List Int} {R0 : Rs} {p : Pol} {u : Int} {σ : L2.St} {i : Nat}
theorem MkO.same (e : Same H H') (h : MkO K H y n kn S Hd R0 p u) : MkO K H' y n kn S Hd R0 p u := by
  obtain ⟨dx, v1, v2, a, b, c⟩ := h
  exact ⟨dx, v1, v2, e _ _ a, b.same e, c.same e⟩
theorem MkO.nt (h : MkO K H y n kn S Hd R0 p u) : ∀ xs, H y ≠ some (.tup xs) := fun xs e => by
  obtain ⟨dx, v1, v2, a, b, c⟩ := h
  rw [a] at e; cases e
/-- an object that is not the maker changes -/
theorem MkO.other {q : Addr} {o : HO} (h : MkO K H y n kn S Hd R0 p u) (hq : y ≠ q) (ht : ∀ xs, H q ≠ some (.tup xs)) : MkO K (upd H q o) y n kn S Hd R0 p u := by
  obtain ⟨dx, v1, v2, a, b, c⟩ := h
  have kp := keep_upd (o := o) ht
  exact ⟨dx, v1, v2, by rw [upd_ne hq]; exact a, b.k kp, c.k kp⟩
theorem MkO.usd (h : MkO K H y n kn S Hd R0 p u) {dx : Addr} {fs : List (Str × V)} (hx : H y = some (.ins (He.ga K "Maker") dx fs)) (z : Int) : MkO K (upd H y (.ins (He.ga K "Maker") dx (putF "used" (.int z) fs))) y n kn S Hd R0 p z := by
  have nt := h.nt
  obtain ⟨dx', v1, v2, a, b, c⟩ := h
  rw [a] at hx
  obtain ⟨rfl, rfl⟩ : dx' = dx ∧ mkF v1 v2 u n kn = fs := by cases hx; exact ⟨rfl, rfl⟩
  have kp := keep_upd (o := .ins (He.ga K "Maker") dx' (putF "used" (.int z) (mkF v1 v2 u n kn))) nt
  exact ⟨dx', v1, v2, upd_same, b.k kp, c.k kp⟩
theorem et_formula (C : MkC K) (h : MkO K H y n kn S Hd R0 p u) (hi : σ[i]? = some (some (.ref y))) : ET K (tFld K (tVar i) "formula") σ H (dF S Hd R0) := fun H1 e Q k => by
  obtain ⟨dx, v1, v2, a, b, c⟩ := h.same e
  exact ⟨_, hi, y, _, dx, _, v1, rfl, a, C.c, C.n1, rfl, k _ H1 (.refl _) b⟩
theorem et_policy (C : MkC K) (h : MkO K H y n kn S Hd R0 p u) (hi : σ[i]? = some (some (.ref y))) : ET K (tFld K (tVar i) "policy") σ H (dP p) := fun H1 e Q k => by
  obtain ⟨dx, v1, v2, a, b, c⟩ := h.same e
  exact ⟨_, hi, y, _, dx, _, v2, rfl, a, C.c, C.n2, rfl, k _ H1 (.refl _) c⟩
theorem et_fuel (C : MkC K) (h : MkO K H y n kn S Hd R0 p u) (hi : σ[i]? = some (some (.ref y))) : ET K (tFld K (tVar i) "fuel") σ H (.int 100000) := fun H1 e Q k => by
  obtain ⟨dx, v1, v2, a, b, c⟩ := h.same e
  exact ⟨_, hi, y, _, dx, _, _, rfl, a, C.c, C.n3, rfl, k _ H1 (.refl _) (.int _)⟩
theorem et_used (C : MkC K) (h : MkO K H y n kn S Hd R0 p u) (hi : σ[i]? = some (some (.ref y))) : ET K (tFld K (tVar i) "used") σ H (.int u) := fun H1 e Q k => by
  obtain ⟨dx, v1, v2, a, b, c⟩ := h.same e
  exact ⟨_, hi, y, _, dx, _, _, rfl, a, C.c, C.n4, rfl, k _ H1 (.refl _) (.int _)⟩
end
section
variable {P : Program} {w : World} {K : PySem.W.Frag} {mg : Str → Option Value} {base : Heap}
/-- left() -/
def spMl (K : PySem.W.Frag) : Sp := fun vs H Q _ => ∃ y n kn S Hd R0 p u, vs = [.ref y] ∧ MkO K H y n kn S Hd R0 p u ∧ ∀ H', Same H H' → Q (.int (100000 - u)) H'
abbrev NMl : List Str := ["self"]
theorem sc_Ml : FnScope NMl ["self"] (defScope sQMaker_left) := ⟨rfl, rfl, rfl, by decide +kernel, rfl, by decide +kernel, by decide +kernel⟩
theorem met_Maker_left (T : Tx K mg base) : Met P w K mg base 1 (He.ga K "Maker") "left" (spMl K) [] := by
  have sc := sc_Ml
  have C := T.mkC
  refine met_of T 57 99 80 rfl rfl rfl sc (fun _ _ _ _ _ _ us hl => match us, hl with | [_], _ => rfl) (fun vs H Q E h => ?_) fun cdv A outer s H vs Q E hr h => ?_
  · obtain ⟨_, _, _, _, _, _, _, _, rfl, _⟩ := h; rfl
  refine ⟨_, (pss_one (ps_ret (pe_op op_sub (pe_fld (pv 0) rfl) (pe_fld (pv 0) rfl)))), ?_⟩
  obtain ⟨y, n, kn, S, Hd, R0, p, u, rfl, h, k⟩ := h
  have R := rel_start (K := K) (H := H) (N := NMl) (vs := [.ref y]) (as := [.v (.ref y)]) (.cons rfl .nil) (by simp)
  exact s_retT (d := .int (100000 - u)) R (et_i (et_fuel C h rfl) (et_used C h rfl)) fun v H' e t => by rw [t.i]; exact k H' e
theorem et_left {H : Hp} {y n kn : Addr} {S Hd : List Int} {R0 : Rs} {p : Pol} {u : Int} {σ : L2.St} {i : Nat} {E : XK} (h : MkO K H y n kn S Hd R0 p u) (hx : σ[i]? = some (some (.ref y))) :
    ET K (tMeth (He.ga K "Maker") "left" (spMl K) [] E (tVar i) tNil) σ H (.int (100000 - u)) := fun H1 e Q k => by
  have h1 := h.same e
  obtain ⟨dx, v1, v2, a, b, c⟩ := id h1
  exact ⟨.ref y, hx, y, dx, _, rfl, a, rfl, y, n, kn, S, Hd, R0, p, u, rfl, h1, fun H' e2 => k _ H' e2 (.int _)⟩
/-- searched(residue) -/
def spMs (K : PySem.W.Frag) : Sp := fun vs H Q _ => ∃ y n kn S Hd R0 p u v2 R, vs = [.ref y, v2] ∧ Td K H v2 (dR R) ∧ RsOk R ∧ NZ R ∧ (varsOf R).length ≤ 2 ∧ u ≤ 90000 ∧ MkO K H y n kn S Hd R0 p u ∧
  ∀ v H' c t d, 0 ≤ c → c ≤ 6 → Same (off [y] H) H' → MkO K H' y n kn S Hd R0 p (u + c) → Td K H' v (.tuple [.str (Tg.s t), d]) → Shp 20 d → ((t = .some_ ∧ Sat R) ∨ (t = .refuted ∧ ¬ Sat R)) → Q v H'
abbrev NMs : List Str := ["self", "residue", "answer", "count"]
theorem sc_Ms : FnScope NMs ["self", "residue"] (defScope sQMaker_searched) := ⟨rfl, rfl, rfl, by decide +kernel, rfl, by decide +kernel, by decide +kernel⟩
theorem met_Maker_searched (T : Tx K mg base) : Met P w K mg base 10 (He.ga K "Maker") "searched" (spMs K) [] := by
  have sc := sc_Ms
  have C := T.mkC
  refine met_of T 58 100 80 rfl rfl rfl sc (fun _ _ _ _ _ _ us hl => match us, hl with | [_, _], _ => rfl) (fun vs H Q E h => ?_) fun cdv A outer s H vs Q E hr h => ?_
  · obtain ⟨_, _, _, _, _, _, _, _, _, _, rfl, _⟩ := h; rfl
  refine ⟨_, (pss_cons (ps_asg (pe_c (cal_search_counted T) hr (by decide) rfl (pa_cons (pv 1) (pa_cons (pe_mt0 (met_Maker_left T) hr (by decide) (pv 0)) pa_nil))) (pg_tup rfl (pgs_cons (pg_name (i := 2) sc.nd rfl (by first | exact Or.inl rfl | exact Or.inr rfl)) (pgs_cons (pg_name (i := 3) sc.nd rfl (by first | exact Or.inl rfl | exact Or.inr rfl)) pgs_nil))))
    (pss_cons (ps_fld (pv 0) (pe_op op_add (pe_fld (pv 0) rfl) (pv 3)) rfl)
    (pss_one (ps_ret (pv 2))))), ?_⟩
  obtain ⟨y, n, kn, S, Hd, R0, p, u, w2, G, rfl, hw2, hG, hz, hv, hu, h, k⟩ := h
  have R := rel_off [y] (K := K) (H := H) (N := NMs) (vs := [.ref y, w2]) (as := [.v (.ref y), .t (dR G)]) (.cons rfl (.cons hw2 .nil)) (by simp) (by simp)
  refine sq ((ex_call (ea_t (et_v R rfl) (ea_t (et_left h rfl) ea_nil)) ⟨G, _, rfl, hG, hz, hv, by omega⟩) H (.refl _) _ fun r v H2 hr2 e2 q => ?_)
  obtain ⟨G', f', d, c, t, ea, rfl, hc0, hc1, hsh, hsat⟩ := hr2
  obtain rfl : G = G' := by
    have z : dR G = dR G' := by simpa using (List.cons.inj ea).1
    exact dR_inj z
  refine g_pair (R.same e2) q fun σ3 R3 => ?_
  have h3 := h.same e2
  have y3 : σ3[0]? = some (some (.ref y)) := R3.sl 0 _ rfl
  try unfold tNext
  try dsimp only
  refine sq ((et_i (et_used C h3 y3) (et_v (d := .int c) R3 rfl)) H2 (.refl _) _ fun v4 H4 e4 t4 => ?_)
  have h4 := h3.same e4
  obtain rfl := t4.i
  obtain ⟨dx, w1, w3, a1, a2, a3⟩ := id h4
  refine ⟨.ref y, y3, y, _, dx, mkF w1 w3 u n kn, rfl, a1, C.c, C.n4, (show (6 : Nat) < 1000 by decide), ?_⟩
  have h5 := h4.usd a1 (u + c)
  have R5 := (R3.same e4).other (q := y) (o := .ins (He.ga K "Maker") dx (putF "used" (.int (u + c)) (mkF w1 w3 u n kn))) (off_in (by simp)) h4.nt (fun i a c q => by
    rcases i with _ | _ | _ | _ | i <;> simp [slots, slOf] at q)
  generalize upd H4 y (.ins (He.ga K "Maker") dx (putF "used" (.int (u + c)) (mkF w1 w3 u n kn))) = H5 at h5 R5 ⊢
  obtain ⟨v6, q1, q2⟩ := R5.sl 2 _ rfl
  exact ⟨v6, q1, k v6 H5 c t d hc0 hc1 R5.base h5 q2 hsh hsat⟩
end
end CW

set_option maxRecDepth 100000
set_option maxHeartbeats 4000000
/-! Maker: choice_plan, plan. -/
namespace CW
open PySem PySem.Spec PyProof.Rows L2
open C8 (Cal Met Mak pe_c pe_mk pe_mt pe_mt0)
theorem rsok_of {S : List Int} {R : Rs} (h : RB S R) (hl : R.length ≤ 700) : RsOk R := by
  have h7 : ∀ c ∈ R, c.length ≤ 7 := fun c hc => Nat.le_trans (canon_len (h.can c hc) hc) h.v7
  refine ⟨⟨by omega, fun c hc => Nat.le_trans (h7 c hc) (by decide)⟩, ?_, by have := h.v7; omega⟩
  have : ∀ Q : Rs, (∀ c ∈ Q, c.length ≤ 7) → Q.flatten.length ≤ 7 * Q.length := by
    intro Q
    induction Q with
    | nil => intro _; exact Nat.zero_le _
    | cons c Q ih =>
      intro hq
      have h1 := hq c List.mem_cons_self
      have h2 := ih fun z hz => hq z (List.mem_cons_of_mem _ hz)
      show (c ++ Q.flatten).length ≤ 7 * (Q.length + 1)
      rw [List.length_append]
      omega
  have := this R h7
  omega
section
variable {K : PySem.W.Frag} {H H' : Hp} {σ : L2.St} {te tl : TE} {d : PyData} {ds : List PyData} {v : V} {y : Addr}
theorem ex_pairL (h : ET K te σ H d) (h2 : EL K tl σ H ds) : EX K (tTup (tCons te (tCons tl tNil))) σ H (fun r => r = .pw d (.lst ds)) := fun H1 e Q k =>
  h H1 e _ fun x H2 e2 t2 => h2 H2 (e.trans e2) _ fun p vs H3 hp e3 hh tt => ⟨sz1000 (by simp), fun l hl => k _ _ _ rfl ((e2.trans e3).trans (same_upd hl)) ⟨l, x, p, .lst vs, rfl, .inl upd_same, (t2.same e3).same (same_upd hl), e2.free hp, (same_upd hl) _ _ hh, vs, rfl, tt.same (same_upd hl)⟩⟩
theorem rz_base {H0 H1 : Hp} {c : Ct} (e : Same H0 H1) (h : RzOk K H1 H' v (.pw d c)) : RzOk K H0 H' v (.pw d c) := by
  obtain ⟨a, x, q, o, h1, h2, h3, h4, h5⟩ := h
  exact ⟨a, x, q, o, h1, h2, h3, e.free h4, h5⟩
theorem rz_off {C dx : Addr} {fs : List (Str × V)} (h : RzOk K (off [y] H) H' v (.pw d (.lst ds))) (hy : H' y = some (.ins C dx fs)) : RzOk K H H' v (.pw d (.lst ds)) := by
  obtain ⟨a, x, q, o, h1, h2, h3, h4, h5, vs, rfl, h6⟩ := h
  refine ⟨a, x, q, _, h1, h2, h3, ?_, h5, vs, rfl, h6⟩
  have : q ≠ y := fun e => by subst e; rw [h5] at hy; cases hy
  rw [off_out (by simpa using this)] at h4
  exact h4
end
theorem shp_nil : Shp 2 (dC []) := (shp_dC []).mono (by decide)
section
variable {P : Program} {w : World} {K : PySem.W.Frag} {mg : Str → Option Value} {base : Heap}
def PlK (K : PySem.W.Frag) (H : Hp) (y n kn : Addr) (S Hd : List Int) (R0 : Rs) (p : Pol) (u : Int) (R : Rs) (Q : VK) : Prop := ∀ v H' c t a ks mk, 0 ≤ c → c ≤ 6 → Same (off [y] H) H' → MkO K H' y n kn S Hd R0 p (u + c) → PlanOk S p.p3 R t a ks mk →
  RzOk K (off [y] H) H' v (.pw (.tuple (.str (Tg.s t) :: a)) (.lst (ks.map dR))) → Q v H'
/-- choice_plan(residue) -/
def spMc (K : PySem.W.Frag) : Sp := fun vs H Q _ => ∃ y n kn S Hd R0 p u v2 R, vs = [.ref y, v2] ∧ Td K H v2 (dR R) ∧ RB S R ∧ R.length ≤ 700 ∧ hasE R = false ∧ unitsOf R = [] ∧ (p.p3 = true → lessened R = R) ∧ shownOf S R ≠ [] ∧ u ≤ 90000 ∧ MkO K H y n kn S Hd R0 p u ∧ PlK K H y n kn S Hd R0 p u R Q
abbrev NMc : List Str := ["self", "residue", "v", "literal"]
theorem sc_Mc : FnScope NMc ["self", "residue"] (defScope sQMaker_choice_plan) := ⟨rfl, rfl, rfl, by decide +kernel, rfl, by decide +kernel, by decide +kernel⟩
theorem met_Maker_choice_plan (T : Tx K mg base) : Met P w K mg base 9 (He.ga K "Maker") "choice_plan" (spMc K) [] := by
  have sc := sc_Mc
  have C := T.mkC
  refine met_of T 60 102 80 rfl rfl rfl sc (fun _ _ _ _ _ _ us hl => match us, hl with | [_, _], _ => rfl) (fun vs H Q E h => ?_) fun cdv A outer s H vs Q E hr h => ?_
  · obtain ⟨_, _, _, _, _, _, _, _, _, _, rfl, _⟩ := h; rfl
  refine ⟨_, (pss_cons (ps_set (i := 2) sc.nd rfl (by first | exact Or.inl rfl | exact Or.inr rfl) (pe_c (cal_chosen T) hr (by decide) rfl (pa_cons (pe_fld (pv 0) rfl) (pa_cons (pe_fld (pv 0) rfl) (pa_cons (pv 1) pa_nil)))))
    (pss_cons (ps_if (pt_val (pe_ix ix_tup (pe_fld (pv 0) rfl) pe_int (fun _ _ => rfl)))
      (pss_one (ps_for PassesOwn.never rfl (pi_tup (pe_tup (pa_cons (pv 2) (pa_cons (pe_un un_neg (pv 2)) pa_nil)))) (pg_name (i := 3) sc.nd rfl (by first | exact Or.inl rfl | exact Or.inr rfl))
        (pss_one (ps_if (pt_val (pe_c (cal_follows T) hr (by decide) rfl (pa_cons (pv 1) (pa_cons (pe_tup (pa_cons (pe_un un_neg (pv 3)) pa_nil)) pa_nil))))
          (pss_one (ps_ret (pe_tup (pa_cons (pe_tup (pa_cons pe_str (pa_cons (pe_tup (pa_cons (pe_un un_neg (pv 3)) pa_nil)) pa_nil))) (pa_cons (pe_lst (pa_cons (pe_c (cal_with_row T) hr (by decide) rfl (pa_cons (pv 1) (pa_cons (pe_tup (pa_cons (pe_un un_neg (pv 3)) pa_nil)) pa_nil))) pa_nil)) pa_nil)))))
          pss_nil))))
      pss_nil)
    (pss_cons (ps_if (pt_cmpR op_le (pe_mt0 (met_Maker_left T) hr (by decide) (pv 0)) pe_int (nomark _))
      (pss_one (ps_ret (pe_tup (pa_cons (pe_tup (pa_cons pe_str pa_nil)) (pa_cons (pe_lst pa_nil) pa_nil)))))
      pss_nil)
    (pss_cons (ps_fld (pv 0) (pe_op op_add (pe_fld (pv 0) rfl) pe_int) rfl)
    (pss_one (ps_ret (pe_tup (pa_cons (pe_tup (pa_cons pe_str (pa_cons (pv 2) pa_nil))) (pa_cons (pe_lst (pa_cons (pe_c (cal_under T) hr (by decide) rfl (pa_cons (pv 1) (pa_cons (pv 2) pa_nil))) (pa_cons (pe_c (cal_under T) hr (by decide) rfl (pa_cons (pv 1) (pa_cons (pe_un un_neg (pv 2)) pa_nil))) pa_nil))) pa_nil))))))))), ?_⟩
  obtain ⟨y, n, kn, S, Hd, R0, p, u, w2, G, rfl, hw2, hG, hlen, hE, hU, hL, hne, hu, h, k⟩ := h
  have ok := rsok_of hG hlen
  have R := rel_off [y] (K := K) (H := H) (N := NMc) (vs := [.ref y, w2]) (as := [.v (.ref y), .t (dR G)]) (.cons rfl (.cons hw2 .nil)) (by simp) (by simp)
  refine sq ((ex_call (ea_t (et_formula C h rfl) (ea_t (et_policy C h rfl) (ea_t (et_v R rfl) ea_nil))) ⟨S, Hd, R0, p, G, rfl, ok.1, Nat.le_trans ok.2.1 (by decide), ok.2.2, hne⟩) H (.refl _) _ fun r v H2 hr2 e2 q => ?_)
  obtain ⟨S', Hd', R0', p', G', z, ea, hz, rfl⟩ := hr2
  have hz2 : z ∈ shownOf S G := by
    have z1 : dF S Hd R0 = dF S' Hd' R0' := by simpa using (List.cons.inj ea).1
    have z2 : dR G = dR G' := by simpa using (List.cons.inj (List.cons.inj (List.cons.inj ea).2).2).1
    have z3 : dC S = dC S' := by unfold dF at z1; simpa using (List.cons.inj (PyData.tuple.inj z1)).1
    rw [dC_inj z3, dR_inj z2]
    exact hz
  clear hz ea
  have hp := varsOf_pos hG.nz (mem_shownOf.mp hz2).1
  have R2 : Rel K (off [y] H) H H2 ((start NMc [.ref y, w2]).set 2 (some v)) [.v (.ref y), .t (dR G), .t (.int z), .any] := ((R.same e2).set_t 2 q).eq rfl
  have h2 := h.same e2
  try unfold tNext
  try dsimp only
  refine sq (s_ifM (fun σ' H' => Rel K (off [y] H) H H' σ' [.v (.ref y), .t (dR G), .t (.int z), .any] ∧ MkO K H' y n kn S Hd R0 p u) (eb_B (et_ixT (et_policy C h2 (R2.sl 0 _ rfl)) et_int (d := .bool p.p4) rfl)) (fun σ3 H3 ⟨R3, h3⟩ => ?_) (fun hb H3 e3 k3 => ?_) fun hb H3 e3 k3 => k3 _ _ ⟨R2.same e3, h2.same e3⟩)
  · have y3 : σ3[0]? = some (some (.ref y)) := R3.sl 0 _ rfl
    try unfold tNext
    try dsimp only
    refine sq (s_if (eb_t (et_ib (et_left h3 y3) et_int)) (fun hb => ?_) fun hb H4 e4 => ?_)
    · exfalso
      have := of_decide_eq_true hb
      omega
    have R4 := R3.same e4
    have h4 := h3.same e4
    try unfold tNext
    try dsimp only
    refine sq ((et_i (et_used C h4 y3) et_int) H4 (.refl _) _ fun v5 H5 e5 t5 => ?_)
    have h5 := h4.same e5
    obtain rfl := t5.i
    obtain ⟨dx, w1, w3, a1, a2, a3⟩ := id h5
    refine ⟨.ref y, y3, y, _, dx, mkF w1 w3 u n kn, rfl, a1, C.c, C.n4, (show (6 : Nat) < 1000 by decide), ?_⟩
    have h6 := h5.usd a1 (u + 1)
    have R6 := (R4.same e5).other (q := y) (o := .ins (He.ga K "Maker") dx (putF "used" (.int (u + 1)) (mkF w1 w3 u n kn))) (off_in (by simp)) h5.nt (fun i a c q => by
      rcases i with _ | _ | _ | _ | i <;> simp at q)
    generalize upd H5 y (.ins (He.ga K "Maker") dx (putF "used" (.int (u + 1)) (mkF w1 w3 u n kn))) = H6 at h6 R6 ⊢
    refine s_retEX (ex_pairL (et_tup (ds := [.str "choice", .int z]) (ea_t et_str (ea_t (et_v R6 rfl) ea_nil))) (el_lst (ds := [dR (under G z), dR (under G (-z))]) (ea_t (et_call (ea_t (et_v R6 rfl) (ea_t (et_v R6 rfl) ea_nil)) ⟨G, z, rfl, ok.1, rfl⟩) (ea_t (et_call (ea_t (et_v R6 rfl) (ea_t (et_neg (et_v R6 rfl)) ea_nil)) ⟨G, -z, rfl, ok.1, rfl⟩) ea_nil)))) fun r v7 H7 hr7 e7 q7 => ?_
    subst hr7
    exact k v7 H7 1 .choice [.int z] [under G z, under G (-z)] _ (by decide) (by decide) (R6.base.trans e7) (h6.same e7) (.choice z hE hU hL hz2) (rz_base R6.base q7)
  · refine s_forP (xs := [z, -z]) (enc := .int) (R2.same e3) (et_tup (ds := [.int z, .int (-z)]) (ea_t (et_v (R2.same e3) rfl) (ea_t (et_neg (et_v (R2.same e3) rfl)) ea_nil))) (fun _ => [.v (.ref y), .t (dR G), .t (.int z), .any]) (fun _ H' => MkO K H' y n kn S Hd R0 p u) rfl (fun H4 e4 => (h2.same e3).same e4) (fun Hm j x v H4x H4 hx R4 h4 back tv => ?_) fun σ4 H4 R4 h4 => k3 _ _ ⟨R4, h4⟩
    refine g_name R4 tv fun σ5 R5 => ?_
    have hx2 : iabs (-x) = z ∧ x ≠ 0 := by
      have : x = z ∨ x = -z := by
        have := List.mem_of_getElem? hx
        simpa using this
      unfold iabs
      rcases this with rfl | rfl <;> (split <;> omega)
    refine s_if (eb_B (et_call (ea_t (et_v R5 rfl) (ea_t (et_tup (ds := [.int (-x)]) (ea_t (et_neg (et_v R5 rfl)) ea_nil)) ea_nil)) ⟨G, [-x], rfl, ok.1, Nat.le_trans ok.2.1 (by decide), by simp, rfl⟩)) (fun hb6 H6 e6 => ?_) fun hb6 H6 e6 => ⟨((R5.same e6).forget 3).eq rfl, h4.same e6⟩
    have R6 := R5.same e6
    refine s_retEX (ex_pairL (et_tup (ds := [.str "more", .tuple [.int (-x)]]) (ea_t et_str (ea_t (et_tup (ds := [.int (-x)]) (ea_t (et_neg (et_v R6 rfl)) ea_nil)) ea_nil))) (el_lst (ds := [dR (withRow G [-x])]) (ea_t (et_call (ea_t (et_v R6 rfl) (ea_t (et_tup (ds := [.int (-x)]) (ea_t (et_neg (et_v R6 rfl)) ea_nil)) ea_nil)) ⟨G, [-x], rfl, by omega, ok.1, by simp, rfl⟩) ea_nil))) fun r v7 H7 hr7 e7 q7 => ?_
    subst hr7
    exact k v7 H7 0 .more [.tuple [.int (-x)]] [withRow G [-x]] _ (by decide) (by decide) (R6.base.trans e7) (by rw [Int.add_zero]; exact (h4.same e6).same e7) (.more (-x) hE hU hL (by rw [hx2.1]; exact hz2) hb6) (rz_base R6.base q7)
end
end CW

set_option maxRecDepth 100000
set_option maxHeartbeats 4000000
/-! Maker: plan. -/
namespace CW
open PySem PySem.Spec PyProof.Rows L2
open C8 (Cal Met Mak pe_c pe_mk pe_mt pe_mt0)
theorem hid_vars {S : List Int} {R : Rs} (h : RB S R) (h2 : shownOf S R = []) : (varsOf R).length ≤ 2 := by
  have e : (varsOf R).filter (fun v => !S.contains v) = varsOf R := List.filter_eq_self.mpr fun v hv => by
    cases q : S.contains v with
    | false => rfl
    | true =>
      have : v ∈ shownOf S R := mem_shownOf.mpr ⟨hv, by simpa using q⟩
      rw [h2] at this
      cases this
  have := h.hid
  rw [e] at this
  exact this
theorem s_retPW2 {K : PySem.W.Frag} {H0 Hk H : Hp} {σ : L2.St} {Γ : List Sl} {te : TE} {d : PyData} {j : Nat} {c : Ct} {p : Addr} {Q : VK} {nx bk ct : L2.St → Hp → Prop} (R : Rel K H0 Hk H σ Γ) (hd : ET K te σ H d) (h : Γ[j]? = some (Sl.w p c)) (k : ∀ v H', Same H H' → RzOk K H0 H' v (.pw d c) → Q v H') : tRet (tTup (tCons te (tCons (tVar j) tNil))) ⟨nx, Q, bk, ct⟩ σ H :=
  hd H (.refl _) _ fun x H2 e2 t2 => by
    have R2 := R.same e2
    obtain ⟨h1, h2, o, h3, h5⟩ := R2.sl j _ h
    refine ⟨_, h1, sz1000 (by simp), fun l hl => k _ _ (e2.trans (same_upd hl)) ⟨l, x, p, o, rfl, .inl upd_same, t2.same (same_upd hl), h2, (same_upd hl) _ _ h3, h5.k (keep_same (same_upd hl))⟩⟩
section
variable {P : Program} {w : World} {K : PySem.W.Frag} {mg : Str → Option Value} {base : Heap}
/-- plan(residue) -/
def spMp (K : PySem.W.Frag) : Sp := fun vs H Q _ => ∃ y n kn S Hd R0 p u v2 R, vs = [.ref y, v2] ∧ Td K H v2 (dR R) ∧ RB S R ∧ R.length ≤ 700 ∧ u ≤ 90000 ∧ MkO K H y n kn S Hd R0 p u ∧ PlK K H y n kn S Hd R0 p u R Q
abbrev NMp : List Str := ["self", "residue", "row", "rows"]
theorem sc_Mp : FnScope NMp ["self", "residue"] (defScope sQMaker_plan) := ⟨rfl, rfl, rfl, by decide +kernel, rfl, by decide +kernel, by decide +kernel⟩
theorem met_Maker_plan (T : Tx K mg base) : Met P w K mg base 11 (He.ga K "Maker") "plan" (spMp K) [] := by
  have sc := sc_Mp
  have C := T.mkC
  refine met_of T 59 101 80 rfl rfl rfl sc (fun _ _ _ _ _ _ us hl => match us, hl with | [_, _], _ => rfl) (fun vs H Q E h => ?_) fun cdv A outer s H vs Q E hr h => ?_
  · obtain ⟨_, _, _, _, _, _, _, _, _, _, rfl, _⟩ := h; rfl
  refine ⟨_, (pss_cons (ps_if (pt_val (pe_c (cal_has_empty T) hr (by decide) rfl (pa_cons (pv 1) pa_nil)))
      (pss_one (ps_ret (pe_tup (pa_cons (pe_tup (pa_cons pe_str pa_nil)) (pa_cons (pe_lst pa_nil) pa_nil)))))
      pss_nil)
    (pss_cons (ps_if (pt_cmpR (op_eqD (u64 hr)) (pv 1) (pe_tup pa_nil) (nomark _))
      (pss_one (ps_ret (pe_tup (pa_cons (pe_tup (pa_cons pe_str pa_nil)) (pa_cons (pe_lst pa_nil) pa_nil)))))
      pss_nil)
    (pss_cons (ps_set (i := 2) sc.nd rfl (by first | exact Or.inl rfl | exact Or.inr rfl) (pe_c (cal_units T) hr (by decide) rfl (pa_cons (pv 1) pa_nil)))
    (pss_cons (ps_if (pt_cmpR (op_neD (u64 hr)) (pv 2) (pe_tup pa_nil) (nomark _))
      (pss_one (ps_ret (pe_tup (pa_cons (pe_tup (pa_cons pe_str (pa_cons (pe_ix ix_tup (pv 2) pe_int (fun _ _ => rfl)) pa_nil))) (pa_cons (pe_lst (pa_cons (pe_c (cal_under T) hr (by decide) rfl (pa_cons (pv 1) (pa_cons (pe_ix ix_tup (pv 2) pe_int (fun _ _ => rfl)) pa_nil))) pa_nil)) pa_nil)))))
      pss_nil)
    (pss_cons (ps_if (PW.pt (pw_and (pt_val (pe_ix ix_tup (pe_fld (pv 0) rfl) pe_int (fun _ _ => rfl))) (pw_and1 (pt_cmpR (op_neD (u64 hr)) (pe_c (cal_lessened T) hr (by decide) rfl (pa_cons (pv 1) pa_nil)) (pv 1) (nomark _)))))
      (pss_one (ps_ret (pe_tup (pa_cons (pe_tup (pa_cons pe_str pa_nil)) (pa_cons (pe_lst (pa_cons (pe_c (cal_lessened T) hr (by decide) rfl (pa_cons (pv 1) pa_nil)) pa_nil)) pa_nil)))))
      pss_nil)
    (pss_cons (ps_if (pt_cmpR (op_eqD (u64 hr)) (pe_c (cal_shown_of T) hr (by decide) rfl (pa_cons (pe_fld (pv 0) rfl) (pa_cons (pv 1) pa_nil))) (pe_tup pa_nil) (nomark _))
      (pss_one (ps_ret (pe_tup (pa_cons (pe_mt (met_Maker_searched T) hr (by decide) (pv 0) (pa_cons (pv 1) pa_nil)) (pa_cons (pe_lst pa_nil) pa_nil)))))
      pss_nil)
    (pss_cons (ps_if (pt_val (pe_ix ix_tup (pe_fld (pv 0) rfl) pe_int (fun _ _ => rfl)))
      (pss_cons (ps_set (i := 3) sc.nd rfl (by first | exact Or.inl rfl | exact Or.inr rfl) (pe_c (cal_parts_of T) hr (by decide) rfl (pa_cons (pv 1) pa_nil)))
      (pss_one (ps_if (pt_cmpR op_gt (pe_callB call_len_seq (by rfl) T.f_len (by decide +kernel) (pa_cons (pv 3) pa_nil)) pe_int (nomark _))
        (pss_one (ps_ret (pe_tup (pa_cons (pe_tup (pa_cons pe_str pa_nil)) (pa_cons (pv 3) pa_nil)))))
        pss_nil)))
      pss_nil)
    (pss_one (ps_ret (pe_mt (met_Maker_choice_plan T) hr (by decide) (pv 0) (pa_cons (pv 1) pa_nil))))))))))), ?_⟩
  obtain ⟨y, n, kn, S, Hd, R0, p, u, w2, G, rfl, hw2, hG, hlen, hu, h, k⟩ := h
  have ok := rsok_of hG hlen
  have R := rel_off [y] (K := K) (H := H) (N := NMp) (vs := [.ref y, w2]) (as := [.v (.ref y), .t (dR G)]) (.cons rfl (.cons hw2 .nil)) (by simp) (by simp)
  have done_ : ∀ {σ' : L2.St} {H' : Hp} {te tl : TE} {t : Tg} {a : List PyData} {ks : List Rs} {mk : List Nat → Rule} {nx bk ct : L2.St → Hp → Prop}, Same (off [y] H) H' → MkO K H' y n kn S Hd R0 p u → ET K te σ' H' (.tuple (.str t.s :: a)) → EL K tl σ' H' (ks.map dR) → PlanOk S p.p3 G t a ks mk → tRet (tTup (tCons te (tCons tl tNil))) ⟨nx, Q, bk, ct⟩ σ' H' := fun {σ' H' te tl t a ks mk nx bk ct} e0 hm h1 h2 hp =>
    s_retEX (ex_pairL h1 h2) fun r v7 H7 hr e q => by
      subst hr
      exact k v7 H7 0 t a ks mk (by decide) (by decide) (e0.trans e) (by rw [Int.add_zero]; exact hm.same e) hp (rz_base e0 q)
  refine sq (s_if (eb_B (et_call (ea_t (et_v R rfl) ea_nil) ⟨G, rfl, rfl⟩)) (fun hb H1 e1 => ?_) fun hE H1 e1 => ?_)
  · exact done_ (t := .no) (a := []) (ks := []) (R.same e1).base (h.same e1) (et_tup (ds := [_]) (ea_t et_str ea_nil)) el_nil (.no hb)
  have R1 := R.same e1
  have h1 := h.same e1
  clear R
  try unfold tNext
  try dsimp only
  refine sq (s_if (eb_t (ET.eq (et_eqD (et_v R1 rfl) (et_tup (ds := []) ea_nil) (shp_dR _).shaped (shp_dR []).shaped) (congrArg PyData.bool (eqv_dR G [])))) (fun hb H2 e2 => ?_) fun hb H2 e2 => ?_)
  · exact done_ (t := .yes) (a := []) (ks := []) (R1.same e2).base (h1.same e2) (et_tup (ds := [_]) (ea_t et_str ea_nil)) el_nil (.yes (of_decide_eq_true hb))
  have R2 := R1.same e2
  have h2 := h1.same e2
  clear R1 hb
  try unfold tNext
  try dsimp only
  refine sq (s_set R2 (et_call (ea_t (et_v R2 rfl) ea_nil) ⟨G, rfl, ok.1, rfl⟩) fun σ3 H3 e3 R3 => ?_)
  have h3 := h2.same e3
  have y3 : σ3[0]? = some (some (.ref y)) := R3.sl 0 _ rfl
  clear R2
  try unfold tNext
  try dsimp only
  refine sq (s_if (eb_t (ET.eq (et_neD (et_v R3 rfl) (et_tup (ds := []) ea_nil) (shp_dC (unitsOf G)).shaped shp_nil.shaped) (congrArg PyData.bool (congrArg Bool.not (eqv_dC (unitsOf G) []))))) (fun hb H4 e4 => ?_) fun hb H4 e4 => ?_)
  · have hne : unitsOf G ≠ [] := by simpa using hb
    obtain ⟨l, us, hus⟩ : ∃ l us, unitsOf G = l :: us := by
      cases q : unitsOf G with
      | nil => exact absurd q hne
      | cons l us => exact ⟨l, us, rfl⟩
    have R4 := R3.same e4
    have hix : ∀ {H' : Hp}, Same H4 H' → ET K (tOp (rIxT K) (tVar 2) (tC (.int 0))) σ3 H' (.int l) := fun e => et_ixT (et_v (R4.same e) rfl) et_int (d := .int l) (ds := (unitsOf G).map .int) (by rw [hus]; exact atI_hd)
    exact done_ (t := .unit) (a := [.int l]) (ks := [under G l]) R4.base (h3.same e4) (et_tup (ds := [_, _]) (ea_t et_str (ea_t (hix (.refl _)) ea_nil))) (el_lst (ds := [dR (under G l)]) (ea_t (et_call (ea_t (et_v R4 rfl) (ea_t (hix (.refl _)) ea_nil)) ⟨G, l, rfl, ok.1, rfl⟩) ea_nil)) (.unit l us hE hus)
  have hU : unitsOf G = [] := by simpa using hb
  have R4 := R3.same e4
  have h4 := h3.same e4
  clear R3 hb
  try unfold tNext
  try dsimp only
  refine sq (s_if (eb_and (eb_B (et_ixT (et_policy C h4 y3) et_int (d := .bool p.p3) rfl)) fun _ => eb_t (ET.eq (et_neD (et_call (ea_t (et_v R4 rfl) ea_nil) ⟨G, rfl, ok.1, rfl⟩) (et_v R4 rfl) (shp_dR (lessened G)).shaped (shp_dR G).shaped) (congrArg PyData.bool (congrArg Bool.not (eqv_dR (lessened G) G))))) (fun hb H5 e5 => ?_) fun hb H5 e5 => ?_)
  · have hb' : p.p3 = true ∧ lessened G ≠ G := by simpa using hb
    have R5 := R4.same e5
    exact done_ (t := .less) (a := []) (ks := [lessened G]) R5.base (h4.same e5) (et_tup (ds := [_]) (ea_t et_str ea_nil)) (el_lst (ds := [dR (lessened G)]) (ea_t (et_call (ea_t (et_v R5 rfl) ea_nil) ⟨G, rfl, ok.1, rfl⟩) ea_nil)) (.less hE hU hb'.1 hb'.2)
  have hL : p.p3 = true → lessened G = G := fun q => by simpa [q] using hb
  have R5 := R4.same e5
  have h5 := h4.same e5
  clear R4 hb
  try unfold tNext
  try dsimp only
  refine sq (s_if (eb_t (ET.eq (et_eqD (et_call (ea_t (et_formula C h5 y3) (ea_t (et_v R5 rfl) ea_nil)) ⟨S, Hd, R0, G, rfl, Nat.le_trans ok.2.1 (by decide), ok.2.2, rfl⟩) (et_tup (ds := []) ea_nil) (shp_dC (shownOf S G)).shaped shp_nil.shaped) (congrArg PyData.bool (eqv_dC (shownOf S G) [])))) (fun hb H6 e6 => ?_) fun hb H6 e6 => ?_)
  · have hs : shownOf S G = [] := of_decide_eq_true hb
    have R6 := R5.same e6
    have h6 := h5.same e6
    obtain ⟨dx, w1, w3, a1, a2, a3⟩ := id h6
    obtain ⟨wg, g1, g2⟩ := R6.sl 1 _ rfl
    refine ⟨.ref y, y3, y, dx, _, rfl, a1, rfl, wg, g1, y, n, kn, S, Hd, R0, p, u, wg, G, rfl, g2, ok, hG.nz, hid_vars hG hs, hu, h6, fun v7 H7 c t d c0 c1 e7 h7 t7 sh7 hsat => ⟨by decide, fun q hq => ⟨sz1000 (by simp), fun pp hpp => ?_⟩⟩⟩
    obtain ⟨dx7, w71, w73, a71, a72, a73⟩ := id h7
    have hqy : H7 q = none := hq
    have eA : Same H7 (upd H7 q (.lst [])) := same_upd hq
    have eB := eA.trans (same_upd (o := .tup [v7, .ref q]) hpp)
    have e70 : Same (off [y] H) H7 := fun a o z => by
      by_cases qa : a = y
      · subst qa; rw [off_in (by simp)] at z; cases z
      · refine e7 a o ?_
        rw [off_out (by simpa using qa)]
        exact R6.base a o z
    have hq0 : off [y] H q = none := e70.free hq
    have hz : RzOk K (off [y] H) (upd (upd H7 q (.lst [])) pp (.tup [v7, .ref q])) (.ref pp) (.pw (.tuple [.str (Tg.s t), d]) (.lst [])) :=
      ⟨pp, v7, q, .lst [], rfl, .inl upd_same, t7.same eB, hq0, (same_upd hpp) _ _ upd_same, [], rfl, .nil⟩
    rcases hsat with ⟨rfl, hsat⟩ | ⟨rfl, hsat⟩
    · exact k _ _ c .some_ [d] [] _ c0 c1 (e70.trans eB) (h7.same eB) (.some_ d sh7 hs hsat) hz
    · exact k _ _ c .refuted [d] [] _ c0 c1 (e70.trans eB) (h7.same eB) (.refuted d sh7 hsat) hz
  have hs : shownOf S G ≠ [] := of_decide_eq_false hb
  have R6 := R5.same e6
  have h6 := h5.same e6
  clear R5 hb
  have R6' : Rel K (off [y] H) H H6 σ3 [.v (.ref y), .t (dR G), .t (dC (unitsOf G)), .any] := R6.eq rfl
  try unfold tNext
  try dsimp only
  refine sq (s_ifM (fun σ' H' => Rel K (off [y] H) H H' σ' [.v (.ref y), .t (dR G), .t (dC (unitsOf G)), .any] ∧ MkO K H' y n kn S Hd R0 p u) (eb_B (et_ixT (et_policy C h6 y3) et_int (d := .bool p.p1) rfl)) (fun σ7 H7 ⟨R7, h7⟩ => ?_) (fun hb H7 e7 k7 => ?_) fun hb H7 e7 k7 => k7 _ _ ⟨R6'.same e7, h6.same e7⟩)
  · have y7 : σ7[0]? = some (some (.ref y)) := R7.sl 0 _ rfl
    obtain ⟨dx, w1, w3, a1, a2, a3⟩ := id h7
    obtain ⟨wg, g1, g2⟩ := R7.sl 1 _ rfl
    refine ⟨.ref y, y7, y, dx, _, rfl, a1, rfl, wg, g1, y, n, kn, S, Hd, R0, p, u, wg, G, rfl, g2, hG, hlen, hE, hU, hL, hs, hu, h7, fun v8 H8 c t a ks mk c0 c1 e8 h8 hp hz => ?_⟩
    have e80 : Same (off [y] H) H8 := fun a o z => by
      by_cases qa : a = y
      · subst qa; rw [off_in (by simp)] at z; cases z
      · refine e8 a o ?_
        rw [off_out (by simpa using qa)]
        exact R7.base a o z
    refine k v8 H8 c t a ks mk c0 c1 e80 h8 hp (rz_base (fun a o z => ?_) hz)
    by_cases qa : a = y
    · subst qa; rw [off_in (by simp)] at z; cases z
    · rw [off_out (by simpa using qa)]
      exact R7.base a o z
  · have R7 := R6'.same e7
    have h7 := h6.same e7
    try unfold tNext
    try dsimp only
    refine sq ((ex_call (ea_t (et_v R7 rfl) ea_nil) ⟨G, rfl, ok.1, hE, Nat.le_trans ok.2.1 (by decide), ok.2.2⟩) H7 (.refl _) _ fun r v8 H8 hr8 e8 q8 => ?_)
    obtain ⟨G', L, ea, U, rfl⟩ := hr8
    obtain rfl : G = G' := by
      have z : dR G = dR G' := by simpa using (List.cons.inj ea).1
      exact dR_inj z
    obtain ⟨pp, o, rfl, hpp, ho, hc⟩ := q8
    have R8 := R7.set_w 3 e8 hpp ho hc
    have h8 := h7.same e8
    try unfold tNext
    try dsimp only
    refine s_if (eb_t (et_ib (et_lenL (e1_w (ds := (partsOf (kap L) G).map dR) R8 rfl)) et_int)) (fun hb9 H9 e9 => ?_) fun hb9 H9 e9 => k7 _ _ ⟨((R8.same e9).forget 3).eq rfl, h8.same e9⟩
    have hb9' : 1 < (partsOf (kap L) G).length := by
      have := of_decide_eq_true hb9
      rw [List.length_map] at this
      omega
    exact s_retPW2 (R8.same e9) (et_tup (ds := [.str (Tg.s .parts)]) (ea_t et_str ea_nil)) rfl fun v10 H10 e10 q10 => k v10 H10 0 .parts [] _ _ (by decide) (by decide) ((R8.same e9).base.trans e10) (by
      rw [Int.add_zero]
      exact (h8.same e9).same e10) (.parts L hE hU hL U hb9') q10
end
end CW

set_option maxRecDepth 100000
set_option maxHeartbeats 4000000
/-! Maker: made. -/
namespace CW
open PySem PySem.Spec PyProof.Rows L2
open C8 (Cal Met Mak pe_c pe_mk pe_mt pe_mt0)
theorem nks_map (R : Rs) : nks (R.map dC) = R.map fun c => nk (dC c) := by
  induction R with
  | nil => rw [List.map_nil, nks]; rfl
  | cons c R ih => rw [List.map_cons, nks, ih]; rfl
theorem nk_dR {a b : Rs} (h : nk (dR a) = nk (dR b)) : a = b := by
  unfold dR at h
  rw [nk, nk, nks_map, nks_map] at h
  injection h with h
  have : ∀ {a b : Rs}, a.map (fun c => nk (dC c)) = b.map (fun c => nk (dC c)) → a = b := by
    intro a
    induction a with
    | nil => intro b h; cases b with
      | nil => rfl
      | cons _ _ => cases h
    | cons c a ih => intro b h; cases b with
      | nil => cases h
      | cons e b =>
        rw [List.map_cons, List.map_cons] at h
        injection h with h1 h2
        rw [nk_dC _ _ h1, ih h2]
  exact this h
theorem nkd_all : ∀ (ns : List Int), NestedKey.depthAll (nks (ns.map .int)) = 0
  | [] => by rw [List.map_nil, nks, NestedKey.depthAll]
  | n :: ns => by rw [List.map_cons, nks, nk, NestedKey.depthAll, NestedKey.depth, nkd_all ns]; rfl
theorem nk_depthR (R : Rs) : (nk (dR R)).depth ≤ 8 := by
  unfold dR
  rw [nk, NestedKey.depth, nks_map]
  have : ∀ R : Rs, NestedKey.depthAll (R.map fun c => nk (dC c)) ≤ 1 := by
    intro R
    induction R with
    | nil => rw [List.map_nil, NestedKey.depthAll]; omega
    | cons c R ih =>
      rw [List.map_cons, NestedKey.depthAll]
      have : (nk (dC c)).depth ≤ 1 := by
        unfold dC
        rw [nk, NestedKey.depth, nkd_all]
        omega
      omega
  have := this R
  omega
/-- the nodes made so far -/
def Nds (K : PySem.W.Frag) (H : Hp) (n : Addr) (nodes : List Node) : Prop := ∃ vs, H n = some (.lst vs) ∧ TdAll K H vs (nodes.map encN)
def EsOk (es : List NdE) (nodes : List Node) : Prop := es.length ≤ nodes.length ∧ ∀ e ∈ es, ∃ (R : Rs) (i : Nat), e.1 = dR R ∧ e.2.2 = .int (i : Int) ∧ (nodes[i]?).map (·.1) = some R
def Kn (P : Program) (w : World) (K : PySem.W.Frag) (H : Hp) (kn : Addr) (es : List NdE) (nodes : List Node) : Prop := H kn = some (NdO P w kn es) ∧ NdKeys K H es ∧ EsOk es nodes
theorem get_snoc {α β : Type} {xs : List α} {y : α} {i : Nat} {f : α → β} {z : β} (h : (xs[i]?).map f = some z) : ((xs ++ [y])[i]?).map f = some z := by
  cases q : xs[i]? with
  | none => rw [q] at h; cases h
  | some x =>
    have hi := (List.getElem?_eq_some_iff.mp q).1
    rw [List.getElem?_append_left hi, q]
    rw [q] at h
    exact h
theorem esok_snoc {es : List NdE} {nodes : List Node} {x : Node} (h : EsOk es nodes) : EsOk es (nodes ++ [x]) := ⟨by rw [List.length_append]; have := h.1; omega, fun e he => by
  obtain ⟨R, i, h1, h2, h3⟩ := h.2 e he
  exact ⟨R, i, h1, h2, get_snoc h3⟩⟩
theorem esok_put {es : List NdE} {nodes : List Node} {R : Rs} {r : Rule} {b : Addr} (h : EsOk es nodes) : EsOk (ndPut es (dR R) b (.int (nodes.length : Int))) (nodes ++ [(R, r)]) := by
  have hx : ((nodes ++ [(R, r)])[nodes.length]?).map (·.1) = some R := by simp
  refine ⟨Nat.le_trans (ndPut_len _ _ _ _) (by rw [List.length_append]; have := h.1; simpa using this), fun e he => ?_⟩
  unfold ndPut at he
  split at he
  · obtain ⟨e0, h0, rfl⟩ := List.mem_map.mp he
    obtain ⟨R', i, h1, h2, h3⟩ := h.2 e0 h0
    split
    · rename_i q
      rw [h1] at q
      obtain rfl := nk_dR q
      exact ⟨R', nodes.length, h1, rfl, hx⟩
    · exact ⟨R', i, h1, h2, get_snoc h3⟩
  · rcases List.mem_append.mp he with h0 | h0
    · obtain ⟨R', i, h1, h2, h3⟩ := h.2 e h0
      exact ⟨R', i, h1, h2, get_snoc h3⟩
    · obtain rfl := List.mem_singleton.mp h0
      exact ⟨R, nodes.length, rfl, rfl, hx⟩
theorem esok_get {es : List NdE} {nodes : List Node} {R : Rs} {v : V} (h : EsOk es nodes) (hg : ndGet es (dR R) = some v) : ∃ i : Nat, v = .int (i : Int) ∧ (nodes[i]?).map (·.1) = some R := by
  unfold ndGet at hg
  cases q : es.find? (fun e => decide (nk e.1 = nk (dR R))) with
  | none => rw [q] at hg; cases hg
  | some e =>
    rw [q] at hg
    have hv : e.2.2 = v := Option.some.inj hg
    obtain ⟨R', i, h1, h2, h3⟩ := h.2 e (List.mem_of_find?_eq_some q)
    have : nk e.1 = nk (dR R) := by simpa using List.find?_some q
    rw [h1] at this
    obtain rfl := nk_dR this
    exact ⟨i, by rw [← hv, h2], h3⟩
def nV (i : Nat) : V := .int (i : Int)
theorem td_nV {K : PySem.W.Frag} {H : Hp} : ∀ ns : List Nat, TdAll K H (ns.map nV) (ns.map dN)
  | [] => .nil
  | n :: ns => .cons (.int _) (td_nV ns)
section
variable {K : PySem.W.Frag} {H H' : Hp} {y n kn : Addr} {S Hd : List Int} {R0 : Rs} {p : Pol} {u : Int} {σ : L2.St} {i : Nat} {nodes : List Node}
theorem Nds.same (e : Same H H') (h : Nds K H n nodes) : Nds K H' n nodes := by
  obtain ⟨vs, a, b⟩ := h
  exact ⟨vs, e _ _ a, b.same e⟩
theorem et_nodesLen (C : MkC K) (h : MkO K H y n kn S Hd R0 p u) (hn : Nds K H n nodes) (hx : σ[i]? = some (some (.ref y))) :
    ET K (tCB (fun xs H Q => ∃ p ys, xs = [.ref p] ∧ (SqL K H p ys ∨ SqT K H p ys) ∧ Q (.int ys.length) H) (tCons (tFld K (tVar i) "nodes") tNil)) σ H (.int nodes.length) := fun H1 e Q k => by
  obtain ⟨dx, v1, v2, a, b, c⟩ := h.same e
  obtain ⟨vs, c1, c2⟩ := hn.same e
  refine ⟨.ref y, hx, y, _, dx, _, .ref n, rfl, a, C.c, C.n5, rfl, n, vs, rfl, .inl (SqL.of c1), ?_⟩
  rw [c2.length, List.length_map]
  exact k _ H1 (.refl _) (.int _)
theorem e1_lst {c : Addr} {ns : List Nat} (hc : H c = some (.lst (ns.map nV))) (hx : σ[i]? = some (some (.ref c))) : E1 K (tVar i) σ H (.l (ns.map dN)) := fun H1 e Q k =>
  ⟨_, hx, k _ H1 (.refl _) ⟨c, _, rfl, .inl (.inl (e _ _ hc)), td_nV ns⟩⟩
end
section
variable {P : Program} {w : World} {K : PySem.W.Frag} {mg : Str → Option Value} {base : Heap}
/-- made(residue, first, children) -/
def spMm (P : Program) (w : World) (K : PySem.W.Frag) : Sp := fun vs H Q _ => ∃ y n kn S Hd R0 p u v2 v3 c, ∃ R t a ks mk ns nodes es, vs = [.ref y, v2, v3, .ref c] ∧ Td K H v2 (dR R) ∧ Td K H v3 (.tuple (.str (Tg.s t) :: a)) ∧ H c = some (.lst (List.map nV ns)) ∧ PlanOk S p.p3 R t a ks mk ∧ ns.length = ks.length ∧ ks.length ≤ 900 ∧ nodes.length ≤ 5000 ∧ n ≠ kn ∧
  MkO K H y n kn S Hd R0 p u ∧ Nds K H n nodes ∧ Kn P w K H kn es nodes ∧
  ∀ H' es', Same (off [n, kn] H) H' → MkO K H' y n kn S Hd R0 p u → Nds K H' n (nodes ++ [(R, mk ns)]) → Kn P w K H' kn es' (nodes ++ [(R, mk ns)]) → Q (.int (nodes.length : Int)) H'
abbrev NMm : List Str := ["self", "residue", "first", "children", "rule", "number"]
theorem sc_Mm : FnScope NMm ["self", "residue", "first", "children"] (defScope sQMaker_made) := ⟨rfl, rfl, rfl, by decide +kernel, rfl, by decide +kernel, by decide +kernel⟩
theorem met_Maker_made (T : Tx K mg base) : Met P w K mg base 1 (He.ga K "Maker") "made" (spMm P w K) [] := by
  have sc := sc_Mm
  have C := T.mkC
  refine met_of T 61 103 80 rfl rfl rfl sc (fun _ _ _ _ _ _ us hl => match us, hl with | [_, _, _, _], _ => rfl) (fun vs H Q E h => ?_) fun cdv A outer s H vs Q E hr h => ?_
  · obtain ⟨_, _, _, _, _, _, _, _, _, _, _, _, _, _, _, _, _, _, _, rfl, _⟩ := h; rfl
  refine ⟨_, (pss_cons (ps_set (i := 4) sc.nd rfl (by first | exact Or.inl rfl | exact Or.inr rfl) (pe_op op_catA (pv 2) (pe_callTy call_tuple_of (by rfl) T.f_tuple (by decide +kernel) (pa_cons (pv 3) pa_nil))))
    (pss_cons (ps_if (pt_cmpR (op_eqD (u64 hr)) (pe_ix ix_tup (pv 2) pe_int (fun _ _ => rfl)) pe_str (nomark _))
      (pss_one (ps_set (i := 4) sc.nd rfl (by first | exact Or.inl rfl | exact Or.inr rfl) (pe_tup (pa_cons pe_str (pa_cons (pe_callTy call_tuple_of (by rfl) T.f_tuple (by decide +kernel) (pa_cons (pv 3) pa_nil)) pa_nil)))))
      pss_nil)
    (pss_cons (ps_expr (pe_bm PySem.F.plainAttrs_list PySem.F.slot_list_append PySem.F.type_list_append mt_append (pe_fld (pv 0) rfl) (pa_cons (pe_tup (pa_cons (pv 1) (pa_cons (pv 4) pa_nil))) pa_nil)))
    (pss_cons (ps_set (i := 5) sc.nd rfl (by first | exact Or.inl rfl | exact Or.inr rfl) (pe_op op_sub (pe_callB call_len_seq (by rfl) T.f_len (by decide +kernel) (pa_cons (pe_fld (pv 0) rfl) pa_nil)) pe_int))
    (pss_cons (ps_if (pt_val (pe_ix ix_tup (pe_fld (pv 0) rfl) pe_int (fun _ _ => rfl)))
      (pss_one (ps_ndput (u64 hr) (pe_fld (pv 0) rfl) (pv 1) (pv 5) rfl))
      pss_nil)
    (pss_one (ps_ret (pv 5)))))))), ?_⟩
  obtain ⟨y, n, kn, S, Hd, R0, p, u, w2, w3, c, G, t, a, ks, mk, ns, nodes, es, rfl, t2, t3, hc, hp, hl, hk9, hn5, hnk, h, hN, hK, k⟩ := h
  have R := rel_off [n, kn] (K := K) (H := H) (N := NMm) (vs := [.ref y, w2, w3, .ref c]) (as := [.v (.ref y), .t (dR G), .t (.tuple (.str (Tg.s t) :: a)), .v (.ref c)]) (.cons rfl (.cons t2 (.cons t3 (.cons rfl .nil)))) (by simp) (by simp)
  have ha : a.length ≤ 2 := by cases hp <;> simp
  refine sq (s_set R (et_catT (et_v R rfl) (et_tupleL (e1_lst hc rfl)) (by simp; omega)) fun σ1 H1 e1 R1 => ?_)
  have hc1 := e1 _ _ hc
  have c1 : σ1[3]? = some (some (.ref c)) := R1.sl 3 _ rfl
  try unfold tNext
  try dsimp only
  refine sq (s_ifM (b := decide (t = Tg.parts)) (fun σ' H' => Same H H' ∧ Rel K (off [n, kn] H) H H' σ' [.v (.ref y), .t (dR G), .t (.tuple (.str (Tg.s t) :: a)), .v (.ref c), .t (ruleD t a ns), .any]) (eb_t (ET.eq (et_eqD (et_ixT (et_v R1 rfl) et_int (d := .str (Tg.s t)) atI_hd) et_str (shp_tag t (n := 1)).shaped (shp_tag .parts (n := 1)).shaped) (by rw [eqv_str]; exact congrArg PyData.bool (tg_inj t .parts)))) (fun σ2 H2 ⟨e2, R2⟩ => ?_) (fun hb H2 e2 k2 => ?_) fun hb H2 e2 k2 => k2 _ _ ⟨e1.trans e2, (R1.same e2).eq (by
    unfold ruleD
    rw [if_neg (of_decide_eq_false hb)]
    rfl)⟩)
  · have h2 := h.same e2
    have hN2 := hN.same e2
    obtain ⟨dx, w1, w4, a1, a2, a3⟩ := id h2
    obtain ⟨vs, b1, b2⟩ := hN2
    have y2 : σ2[0]? = some (some (.ref y)) := R2.sl 0 _ rfl
    have lv : vs.length = nodes.length := by rw [b2.length, List.length_map]
    try unfold tNext
    try dsimp only
    refine sq ⟨.ref y, y2, y, _, dx, _, .ref n, rfl, a1, C.c, C.n5, rfl, .inl ⟨rfl, _, SqL.of b1⟩, ?_⟩
    refine (et_tup (ds := [dR G, ruleD t a ns]) (ea_t (et_v R2 rfl) (ea_t (et_v R2 rfl) ea_nil))) H2 (.refl _) _ fun v H3 e3 t4 => ⟨n, vs, v, rfl, rfl, e3 _ _ b1, by rw [lv]; exact Nat.lt_of_le_of_lt hn5 (by decide), ?_⟩
    have b13 := e3 _ _ b1
    have ntn : ∀ xs, H3 n ≠ some (.tup xs) := fun xs e => by rw [b13] at e; cases e
    have yn : y ≠ n := fun e => by subst e; rw [a1] at b1; cases b1
    have kp := keep_upd (o := .lst (vs ++ [v])) ntn
    have h4 : MkO K (upd H3 n (.lst (vs ++ [v]))) y n kn S Hd R0 p u := (h2.same e3).other yn ntn
    have hN4 : Nds K (upd H3 n (.lst (vs ++ [v]))) n (nodes ++ [(G, mk ns)]) := ⟨vs ++ [v], upd_same, by
      rw [List.map_append]
      refine (TdAll.snoc (b2.same e3) ?_).k kp
      show Td K H3 v (.tuple [dR G, encR (mk ns)])
      rw [hp.enc hl]
      exact t4⟩
    have hK4 : Kn P w K (upd H3 n (.lst (vs ++ [v]))) kn es (nodes ++ [(G, mk ns)]) := ⟨by rw [upd_ne hnk.symm]; exact e3 _ _ (e2 _ _ hK.1), (hK.2.1.k ((keep_same e2).trans (keep_same e3))).k kp, esok_snoc hK.2.2⟩
    have R4 := (R2.same e3).other (q := n) (o := .lst (vs ++ [v])) (off_in (by simp)) ntn (fun i a c q => by
      rcases i with _ | _ | _ | _ | _ | _ | i <;> simp at q)
    generalize upd H3 n (.lst (vs ++ [v])) = H4 at h4 hN4 hK4 R4 ⊢
    try unfold tNext
    try dsimp only
    refine sq (s_set R4 (ET.eq (et_i (et_nodesLen C h4 hN4 y2) et_int) (show _ = PyData.int (nodes.length : Int) by simp)) fun σ5 H5 e5 R5 => ?_)
    have h5 := h4.same e5
    have hN5 := hN4.same e5
    have hK5 : Kn P w K H5 kn es (nodes ++ [(G, mk ns)]) := ⟨e5 _ _ hK4.1, hK4.2.1.k (keep_same e5), hK4.2.2⟩
    have y5 : σ5[0]? = some (some (.ref y)) := R5.sl 0 _ rfl
    have R5' : Rel K (off [n, kn] H) H H5 σ5 [.v (.ref y), .t (dR G), .t (.tuple (.str (Tg.s t) :: a)), .v (.ref c), .t (ruleD t a ns), .t (.int (nodes.length : Int))] := R5.eq rfl
    clear R5 R4
    try unfold tNext
    try dsimp only
    refine sq (s_ifM (fun σ' H' => ∃ es', Rel K (off [n, kn] H) H H' σ' [.v (.ref y), .t (dR G), .t (.tuple (.str (Tg.s t) :: a)), .v (.ref c), .t (ruleD t a ns), .t (.int (nodes.length : Int))] ∧ MkO K H' y n kn S Hd R0 p u ∧ Nds K H' n (nodes ++ [(G, mk ns)]) ∧ Kn P w K H' kn es' (nodes ++ [(G, mk ns)])) (eb_B (et_ixT (et_policy C h5 y5) et_int (d := .bool p.p2) rfl)) (fun σ6 H6 ⟨es', R6, h6, hN6, hK6⟩ => ?_) (fun hb H6 e6 k6 => ?_) fun hb H6 e6 k6 => k6 _ _ ⟨es, R5'.same e6, h5.same e6, hN5.same e6, e6 _ _ hK5.1, hK5.2.1.k (keep_same e6), hK5.2.2⟩)
    · exact s_ret (d := .int (nodes.length : Int)) (et_v R6 rfl) fun v7 H7 e7 t7 => by
        rw [t7.i]
        exact k H7 es' (R6.base.trans e7) (h6.same e7) (hN6.same e7) ⟨e7 _ _ hK6.1, hK6.2.1.k (keep_same e7), hK6.2.2⟩
    · have R6 := R5'.same e6
      have h6 := h5.same e6
      have hN6 := hN5.same e6
      have hK6 : Kn P w K H6 kn es (nodes ++ [(G, mk ns)]) := ⟨e6 _ _ hK5.1, hK5.2.1.k (keep_same e6), hK5.2.2⟩
      obtain ⟨dx6, w61, w64, a61, a62, a63⟩ := id h6
      obtain ⟨u5, s5, q5⟩ := R6.sl 5 _ rfl
      obtain ⟨u1, s1, q1⟩ := R6.sl 1 _ rfl
      obtain rfl := q5.i
      obtain ⟨b, xs, rfl, _, _⟩ := (show Td K H6 u1 (.tuple (G.map dC)) from q1).t
      refine ⟨.int (nodes.length : Int), s5, .ref y, y5, y, _, dx6, _, .ref kn, rfl, a61, C.c, C.n6, rfl, .ref b, s1, kn, es, b, dR G, rfl, rfl, hK6.1, hK6.2.1, q1, nk_depthR G, ?_, ?_⟩
      · have := hK.2.2.1
        omega
      have ntk : ∀ xs, H6 kn ≠ some (.tup xs) := fun xs e => by rw [hK6.1] at e; exact nd_nt xs (Option.some.inj e)
      have ykn : y ≠ kn := fun e => by
        subst e
        have z := Option.some.inj (a61.symm.trans hK6.1)
        unfold NdO at z
        cases z
      have kp6 := keep_upd (o := NdO P w kn (ndPut es (dR G) b (.int (nodes.length : Int)))) ntk
      obtain ⟨vs6, b61, b62⟩ := hN6
      refine k6 _ _ ⟨_, R6.other (off_in (by simp)) ntk (fun i a c q => by
        rcases i with _ | _ | _ | _ | _ | _ | i <;> simp at q), h6.other ykn ntk, ⟨vs6, by rw [upd_ne hnk]; exact b61, b62.k kp6⟩, upd_same, (nd_keysPut hK6.2.1 q1 (nk_depthR G)).k kp6, esok_put hK.2.2⟩
  · have ht : t = .parts := of_decide_eq_true hb
    subst ht
    have R2 := R1.same e2
    exact s_set R2 (et_tup (ds := [.str (Tg.s .parts), .tuple (ns.map dN)]) (ea_t et_str (ea_t (et_tupleL (e1_lst (e2 _ _ hc1) c1)) ea_nil))) fun σ3 H3 e3 R3 => k2 _ _ ⟨(e1.trans e2).trans e3, R3.eq (by
      unfold ruleD
      rw [if_pos rfl]
      rfl)⟩
end
end CW

/-! Plain: the stack of the maker. -/
namespace CW
open PySem
structure En where
  R : Rs
  t : Tg
  a : List PyData
  ks : List Rs
  mf : List Nat → Rule
  ns : List Nat
  c : Addr
  q : Addr
/-- the child at place j is made, with its residue -/
def KidAt (nodes : List Node) (ks : List Rs) (ns : List Nat) : Prop := ∀ (j c : Nat), ns[j]? = some c → ∃ Rc, ks[j]? = some Rc ∧ (nodes[c]?).map (·.1) = some Rc
def NodeOk (S : List Int) (p3 : Bool) (nodes : List Node) (i : Nat) (R : Rs) (r : Rule) : Prop := RB S R ∧ R.length ≤ 700 ∧ ∃ t a ks mk ns, PlanOk S p3 R t a ks mk ∧ r = mk ns ∧ ns.length = ks.length ∧ ks.length ≤ 900 ∧ KidAt nodes ks ns ∧ ∀ c ∈ ns, c < i
def SheetOk (S : List Int) (p3 : Bool) (nodes : List Node) : Prop := ∀ (i : Nat) (x : Node), nodes[i]? = some x → NodeOk S p3 nodes i x.1 x.2
def EnM (S : List Int) (p3 : Bool) (nodes : List Node) (z : En) : Prop := PlanOk S p3 z.R z.t z.a z.ks z.mf ∧ RB S z.R ∧ z.R.length + Wt p3 z.R ≤ 700 ∧ z.ns.length ≤ z.ks.length ∧ KidAt nodes z.ks z.ns
def Chn (F : Rs) : List En → Prop
  | [] => True
  | [z] => z.R = F
  | z :: w :: us => w.ks[w.ns.length]? = some z.R ∧ Chn F (w :: us)
def rem0 (p3 : Bool) (z : En) : Nat := 1 + ((z.ks.drop z.ns.length).map (Wt p3)).sum
def rem1 (p3 : Bool) (z : En) : Nat := 1 + ((z.ks.drop (z.ns.length + 1)).map (Wt p3)).sum
def pot (p3 : Bool) : List En → Nat
  | [] => 0
  | z :: us => rem0 p3 z + (us.map (rem1 p3)).sum
def muE (p3 : Bool) (us : List En) : Nat := 2 * pot p3 us - us.length
structure MkM (S : List Int) (p3 : Bool) (F : Rs) (us : List En) (nodes : List Node) (u : Int) : Prop where
  sh : SheetOk S p3 nodes
  en : ∀ z ∈ us, EnM S p3 nodes z
  ch : Chn F us
  pt : nodes.length + pot p3 us ≤ 700
  fu : u ≤ 6 * (nodes.length + us.length)
  last : us = [] → ∃ pre r, nodes = pre ++ [(F, r)]
section
variable {S : List Int} {p3 : Bool} {F : Rs} {us : List En} {nodes : List Node} {u : Int} {z w : En}
theorem kidAt_snoc {ks : List Rs} {ns : List Nat} {x : Node} (h : KidAt nodes ks ns) : KidAt (nodes ++ [x]) ks ns := fun j c hj => by
  obtain ⟨Rc, h1, h2⟩ := h j c hj
  exact ⟨Rc, h1, get_snoc h2⟩
theorem kidAt_add {ks : List Rs} {ns : List Nat} {i : Nat} {Rc : Rs} (h : KidAt nodes ks ns) (h1 : ks[ns.length]? = some Rc) (h2 : (nodes[i]?).map (·.1) = some Rc) : KidAt nodes ks (ns ++ [i]) := fun j c hj => by
  by_cases q : j < ns.length
  · rw [List.getElem?_append_left q] at hj
    exact h j c hj
  · rw [List.getElem?_append_right (by omega)] at hj
    have e : j = ns.length := by
      have := (List.getElem?_eq_some_iff.mp hj).1
      simp at this
      omega
    subst e
    simp at hj
    subst hj
    exact ⟨Rc, h1, h2⟩
theorem enM_snoc {x : Node} (h : EnM S p3 nodes z) : EnM S p3 (nodes ++ [x]) z := ⟨h.1, h.2.1, h.2.2.1, h.2.2.2.1, kidAt_snoc h.2.2.2.2⟩
theorem ks_len (h : EnM S p3 nodes z) : z.ks.length ≤ 700 ∧ z.R.length ≤ 700 := by
  have h1 := Wt_kids h.1 h.2.1
  have : ∀ ks : List Rs, ks.length ≤ (ks.map (Wt p3)).sum := by
    intro ks
    induction ks with
    | nil => exact Nat.le_refl _
    | cons k ks ih =>
      have := Wt_pos p3 k
      simp only [List.map_cons, List.sum_cons, List.length_cons]
      omega
  have h2 := this z.ks
  have h3 := h.2.2.1
  omega
theorem pot_len : ∀ us : List En, us.length ≤ pot p3 us
  | [] => Nat.le_refl _
  | z :: us => by
    have : ∀ us : List En, us.length ≤ (us.map (rem1 p3)).sum := by
      intro us
      induction us with
      | nil => exact Nat.le_refl _
      | cons k us ih =>
        have : 1 ≤ rem1 p3 k := by unfold rem1; omega
        simp only [List.map_cons, List.sum_cons, List.length_cons]
        omega
    have := this us
    simp only [pot, rem0, List.length_cons]
    omega
theorem MkM.small (h : MkM S p3 F us nodes u) : u ≤ 4200 ∧ nodes.length ≤ 700 := by
  have h1 := h.pt
  have h2 := h.fu
  have h3 := pot_len (p3 := p3) us
  omega
theorem drop_at {ks : List Rs} {n : Nat} {k : Rs} (h : ks[n]? = some k) : ks.drop n = k :: ks.drop (n + 1) := by
  obtain ⟨h1, h2⟩ := List.getElem?_eq_some_iff.mp h
  rw [List.drop_eq_getElem_cons h1, h2]
/-- a child that is known, or made just now -/
theorem MkM.child {i : Nat} {k : Rs} (h : MkM S p3 F (z :: us) nodes u) (hk : z.ks[z.ns.length]? = some k) (hi : (nodes[i]?).map (·.1) = some k) : MkM S p3 F ({ z with ns := z.ns ++ [i] } :: us) nodes u ∧ muE p3 ({ z with ns := z.ns ++ [i] } :: us) < muE p3 (z :: us) := by
  have hz := h.en z List.mem_cons_self
  have hlt := (List.getElem?_eq_some_iff.mp hk).1
  have e0 : rem0 p3 { z with ns := z.ns ++ [i] } = rem1 p3 z := by unfold rem0 rem1; simp
  have e1 : rem0 p3 z = rem1 p3 z + Wt p3 k := by
    unfold rem0 rem1
    rw [drop_at hk, List.map_cons, List.sum_cons]
    omega
  have hw := Wt_pos p3 k
  have hp : pot p3 ({ z with ns := z.ns ++ [i] } :: us) + Wt p3 k = pot p3 (z :: us) := by
    show rem0 p3 { z with ns := z.ns ++ [i] } + _ + _ = rem0 p3 z + _
    rw [e0, e1]
    omega
  refine ⟨⟨h.sh, fun w hw' => ?_, ?_, ?_, ?_, fun q => by cases q⟩, ?_⟩
  · rcases List.mem_cons.mp hw' with rfl | hw'
    · exact ⟨hz.1, hz.2.1, hz.2.2.1, by simp; omega, kidAt_add hz.2.2.2.2 hk hi⟩
    · exact h.en w (List.mem_cons_of_mem _ hw')
  · have := h.ch
    cases us with
    | nil => exact this
    | cons w us => exact this
  · have := h.pt
    omega
  · have := h.fu
    simpa using this
  · unfold muE
    have := pot_len (p3 := p3) ({ z with ns := z.ns ++ [i] } :: us)
    simp only [List.length_cons] at *
    omega
/-- a child to be made -/
theorem MkM.push {c : Int} (h : MkM S p3 F (z :: us) nodes u) (hk : z.ks[z.ns.length]? = some w.R) (hp : PlanOk S p3 w.R w.t w.a w.ks w.mf) (hn : w.ns = []) (hc : c ≤ 6) : MkM S p3 F (w :: z :: us) nodes (u + c) ∧ muE p3 (w :: z :: us) < muE p3 (z :: us) := by
  have hz := h.en z List.mem_cons_self
  obtain ⟨g1, g2⟩ := rb_kid hz.1 hz.2.1 (List.mem_of_getElem? hk)
  have hwk := Wt_kids hp g1
  have hzk := Wt_kids hz.1 hz.2.1
  have e1 : rem0 p3 z = rem1 p3 z + Wt p3 w.R := by
    unfold rem0 rem1
    rw [drop_at hk, List.map_cons, List.sum_cons]
    omega
  have e2 : rem0 p3 w ≤ Wt p3 w.R := by
    unfold rem0
    rw [hn]
    exact hwk
  have hs : Wt p3 w.R + 1 ≤ Wt p3 z.R := by
    have : ∀ ks : List Rs, w.R ∈ ks → Wt p3 w.R ≤ (ks.map (Wt p3)).sum := by
      intro ks
      induction ks with
      | nil => intro q; cases q
      | cons k ks ih =>
        intro q
        simp only [List.map_cons, List.sum_cons]
        rcases List.mem_cons.mp q with rfl | q
        · omega
        · have := ih q; omega
    have := this _ (List.mem_of_getElem? hk)
    omega
  have hp2 : pot p3 (w :: z :: us) ≤ pot p3 (z :: us) := by
    show rem0 p3 w + ((z :: us).map (rem1 p3)).sum ≤ rem0 p3 z + (us.map (rem1 p3)).sum
    rw [List.map_cons, List.sum_cons]
    omega
  refine ⟨⟨h.sh, fun x hx => ?_, ⟨hk, h.ch⟩, ?_, ?_, fun q => by cases q⟩, ?_⟩
  · rcases List.mem_cons.mp hx with rfl | hx
    · refine ⟨hp, g1, ?_, by rw [hn]; exact Nat.zero_le _, fun j c hj => by rw [hn] at hj; cases hj⟩
      have := hz.2.2.1
      omega
    · exact h.en x hx
  · have := h.pt
    omega
  · have := h.fu
    simp only [List.length_cons] at *
    omega
  · unfold muE
    have := pot_len (p3 := p3) (w :: z :: us)
    simp only [List.length_cons] at *
    omega
/-- a node is made, its entry leaves the stack -/
theorem MkM.pop (h : MkM S p3 F (z :: us) nodes u) (hl : z.ns.length = z.ks.length) : SheetOk S p3 (nodes ++ [(z.R, z.mf z.ns)]) ∧ (us = [] → MkM S p3 F [] (nodes ++ [(z.R, z.mf z.ns)]) u ∧ muE p3 [] < muE p3 (z :: us)) ∧
    (∀ w us', us = w :: us' → MkM S p3 F ({ w with ns := w.ns ++ [nodes.length] } :: us') (nodes ++ [(z.R, z.mf z.ns)]) u ∧ muE p3 ({ w with ns := w.ns ++ [nodes.length] } :: us') < muE p3 (z :: us)) := by
  have hz := h.en z List.mem_cons_self
  have hsh : SheetOk S p3 (nodes ++ [(z.R, z.mf z.ns)]) := fun i x hx => by
    by_cases q : i < nodes.length
    · rw [List.getElem?_append_left q] at hx
      obtain ⟨g1, g2, t, a, ks, mk, ns, g3, g4, g5, g6, g7, g8⟩ := h.sh i x hx
      exact ⟨g1, g2, t, a, ks, mk, ns, g3, g4, g5, g6, kidAt_snoc g7, g8⟩
    · rw [List.getElem?_append_right (by omega)] at hx
      have e : i = nodes.length := by
        have := (List.getElem?_eq_some_iff.mp hx).1
        simp at this
        omega
      subst e
      simp at hx
      subst hx
      refine ⟨hz.2.1, (ks_len hz).2, z.t, z.a, z.ks, z.mf, z.ns, hz.1, rfl, hl, Nat.le_trans (ks_len hz).1 (by decide), kidAt_snoc hz.2.2.2.2, fun c hc => ?_⟩
      obtain ⟨j, hj⟩ := List.getElem?_of_mem hc
      obtain ⟨Rc, _, h2⟩ := hz.2.2.2.2 j c hj
      cases q2 : nodes[c]? with
      | none => rw [q2] at h2; cases h2
      | some y => exact (List.getElem?_eq_some_iff.mp q2).1
  have hr : rem0 p3 z = 1 := by
    unfold rem0
    rw [hl, List.drop_length]
    rfl
  have hpt := h.pt
  have hus := h.fu
  refine ⟨hsh, fun e => ?_, fun w us' e => ?_⟩
  · subst e
    refine ⟨⟨hsh, fun x hx => (by cases hx), trivial, ?_, ?_, fun _ => ⟨nodes, z.mf z.ns, ?_⟩⟩, ?_⟩
    · simp only [pot, List.length_append, List.length_singleton] at *
      simp at hpt
      omega
    · simp at hus ⊢
      omega
    · have : z.R = F := h.ch
      rw [this]
    · unfold muE
      simp only [pot, hr]
      simp
  · subst e
    have hw := h.en w (by simp)
    have hch : w.ks[w.ns.length]? = some z.R ∧ Chn F (w :: us') := h.ch
    have hlt := (List.getElem?_eq_some_iff.mp hch.1).1
    have e0 : rem0 p3 { w with ns := w.ns ++ [nodes.length] } = rem1 p3 w := by unfold rem0 rem1; simp
    have hp : pot p3 ({ w with ns := w.ns ++ [nodes.length] } :: us') + 1 = pot p3 (z :: w :: us') := by
      show rem0 p3 { w with ns := w.ns ++ [nodes.length] } + _ + 1 = rem0 p3 z + ((w :: us').map (rem1 p3)).sum
      rw [e0, hr, List.map_cons, List.sum_cons]
      omega
    refine ⟨⟨hsh, fun x hx => ?_, ?_, ?_, ?_, fun q => by cases q⟩, ?_⟩
    · rcases List.mem_cons.mp hx with rfl | hx
      · exact ⟨hw.1, hw.2.1, hw.2.2.1, by simp; omega, kidAt_add (kidAt_snoc hw.2.2.2.2) hch.1 (by simp)⟩
      · exact enM_snoc (h.en x (by simp [hx]))
    · have := hch.2
      cases us' with
      | nil => exact this
      | cons v us' => exact this
    · rw [List.length_append, List.length_singleton]
      omega
    · simp only [List.length_cons, List.length_append, List.length_singleton] at *
      omega
    · unfold muE
      have := pot_len (p3 := p3) ({ w with ns := w.ns ++ [nodes.length] } :: us')
      simp only [List.length_cons] at *
      omega
/-- the start -/
theorem MkM.start {c : Int} (hR : RB S F) (hW : F.length + Wt p3 F ≤ 700) (hz : z.R = F) (hp : PlanOk S p3 z.R z.t z.a z.ks z.mf) (hn : z.ns = []) (hc : c ≤ 6) : MkM S p3 F [z] [] (0 + c) := by
  subst hz
  have := Wt_kids hp hR
  refine ⟨fun i x hx => (by cases hx), fun x hx => ?_, rfl, ?_, ?_, fun q => by cases q⟩
  · obtain rfl := List.mem_singleton.mp hx
    exact ⟨hp, hR, hW, by rw [hn]; exact Nat.zero_le _, fun j c hj => by rw [hn] at hj; cases hj⟩
  · simp only [pot, rem0, hn]
    simp
    omega
  · simp
    omega
end
end CW

set_option maxRecDepth 100000
set_option maxHeartbeats 4000000
/-! Maker: number_of. -/
namespace CW
open PySem PySem.Spec PyProof.Rows L2
open C8 (Cal Met Mak pe_c pe_mk pe_mt pe_mt0)
def EnOk (K : PySem.W.Frag) (H : Hp) (v : V) (z : En) : Prop := ∃ tt vr pa vf, v = .ref tt ∧ TuA K H tt [vr, .ref pa, .ref z.c] ∧ Td K H vr (dR z.R) ∧ TuA K H pa [vf, .ref z.q] ∧ Td K H vf (.tuple (.str (Tg.s z.t) :: z.a)) ∧ (∃ qs, H z.q = some (.lst qs) ∧ TdAll K H qs (z.ks.map dR)) ∧ H z.c = some (.lst (z.ns.map nV))
structure Sep (H0 : Hp) (sp n : Addr) (us : List En) : Prop where
  a : ∀ z ∈ us, z.c ≠ sp ∧ z.c ≠ n ∧ z.q ≠ sp ∧ z.q ≠ n ∧ z.c ≠ z.q ∧ H0 z.c = none
  b : us.Pairwise fun z w => z.c ≠ w.c ∧ z.c ≠ w.q ∧ z.q ≠ w.c
section
variable {P : Program} {w : World} {K : PySem.W.Frag} {H0 Hk H H' : Hp} {y n kn sp : Addr} {S Hd : List Int} {R0 : Rs} {p : Pol} {u : Int} {σ : L2.St} {Γ : List Sl} {i j : Nat} {nodes : List Node} {es : List NdE} {G : Rs} {v : V} {z : En}
theorem EnOk.mv (h : EnOk K H v z) (k : Keep H H') (hq : ∀ o, H z.q = some o → H' z.q = some o) (hc : ∀ o, H z.c = some o → H' z.c = some o) : EnOk K H' v z := by
  obtain ⟨tt, vr, pa, vf, h1, h2, h3, h4, h5, ⟨qs, h6, h7⟩, h8⟩ := h
  exact ⟨tt, vr, pa, vf, h1, h2.keep k, h3.k k, h4.keep k, h5.k k, ⟨qs, hq _ h6, h7.k k⟩, hc _ h8⟩
theorem EnOk.same (e : Same H H') (h : EnOk K H v z) : EnOk K H' v z := h.mv (keep_same e) (fun o q => e _ _ q) fun o q => e _ _ q
theorem EnOk.other {a : Addr} {o : HO} (h : EnOk K H v z) (ht : ∀ xs, H a ≠ some (.tup xs)) (hq : z.q ≠ a) (hc : z.c ≠ a) : EnOk K (upd H a o) v z := h.mv (keep_upd ht) (fun o q => by rw [upd_ne hq]; exact q) fun o q => by rw [upd_ne hc]; exact q
theorem Kn.same (e : Same H H') (h : Kn P w K H kn es nodes) : Kn P w K H' kn es nodes := ⟨e _ _ h.1, h.2.1.k (keep_same e), h.2.2⟩
theorem Kn.other {a : Addr} {o : HO} (h : Kn P w K H kn es nodes) (ht : ∀ xs, H a ≠ some (.tup xs)) (ha : kn ≠ a) : Kn P w K (upd H a o) kn es nodes := ⟨by rw [upd_ne ha]; exact h.1, h.2.1.k (keep_upd ht), h.2.2⟩
theorem Nds.other {a : Addr} {o : HO} (h : Nds K H n nodes) (ht : ∀ xs, H a ≠ some (.tup xs)) (ha : n ≠ a) : Nds K (upd H a o) n nodes := by
  obtain ⟨vs, h1, h2⟩ := h
  exact ⟨vs, by rw [upd_ne ha]; exact h1, h2.k (keep_upd ht)⟩
theorem kn_ne {a : Addr} {xs : List V} (h : Kn P w K H kn es nodes) (ha : H a = some (.lst xs)) : kn ≠ a := fun e => by
  subst e
  have z := Option.some.inj (h.1.symm.trans ha)
  unfold NdO at z
  cases z
theorem mk_ne {a : Addr} {xs : List V} (h : MkO K H y n kn S Hd R0 p u) (ha : H a = some (.lst xs)) : y ≠ a := fun e => by
  obtain ⟨dx, v1, v2, a1, _⟩ := h
  subst e
  rw [a1] at ha
  cases ha
theorem lst_nt {a : Addr} {xs : List V} (ha : H a = some (.lst xs)) : ∀ ys, H a ≠ some (.tup ys) := fun ys e => by rw [ha] at e; cases e
theorem et_kin (C : MkC K) (h : MkO K H y n kn S Hd R0 p u) (hk : Kn P w K H kn es nodes) (R : Rel K H0 Hk H σ Γ) (hi : Γ[i]? = some (.t (dR G))) (hj : σ[j]? = some (some (.ref y))) : ET K (tNdIn K P w (tVar i) (tFld K (tVar j) "known")) σ H (.bool (ndGet es (dR G)).isSome) := fun H1 e Q k => by
  obtain ⟨v, h1, h2⟩ := (R.same e).sl i _ hi
  obtain ⟨b, xs, rfl, _, _⟩ := (show Td K H1 v (.tuple (G.map dC)) from h2).t
  obtain ⟨dx, w1, w2, a1, _⟩ := h.same e
  have hk' := hk.same e
  exact ⟨.ref b, h1, .ref y, hj, y, _, dx, _, .ref kn, rfl, a1, C.c, C.n6, rfl, kn, es, b, dR G, rfl, rfl, hk'.1, hk'.2.1, h2, nk_depthR G, k _ H1 (.refl _) (.bl _)⟩
theorem et_kget {m : Nat} (C : MkC K) (h : MkO K H y n kn S Hd R0 p u) (hk : Kn P w K H kn es nodes) (R : Rel K H0 Hk H σ Γ) (hi : Γ[i]? = some (.t (dR G))) (hj : σ[j]? = some (some (.ref y))) (hg : ndGet es (dR G) = some (.int (m : Int))) : ET K (tNdGet K P w (tFld K (tVar j) "known") (tVar i)) σ H (.int (m : Int)) := fun H1 e Q k => by
  obtain ⟨v, h1, h2⟩ := (R.same e).sl i _ hi
  obtain ⟨b, xs, rfl, _, _⟩ := (show Td K H1 v (.tuple (G.map dC)) from h2).t
  obtain ⟨dx, w1, w2, a1, _⟩ := h.same e
  have hk' := hk.same e
  exact ⟨.ref y, hj, y, _, dx, _, .ref kn, rfl, a1, C.c, C.n6, rfl, .ref b, h1, kn, es, b, dR G, _, rfl, rfl, hk'.1, hk'.2.1, h2, nk_depthR G, hg, k _ H1 (.refl _) (.int _)⟩
theorem e1_plan {pa q : Addr} {vf : V} {qs : List V} {ds : List PyData} (hp : TuA K H pa [vf, .ref q]) (hq : H q = some (.lst qs)) (hd : TdAll K H qs ds) (hi : σ[i]? = some (some (.ref pa))) : E1 K (tOp (rIxT K) (tVar i) (tC (.int 1))) σ H (.l ds) := fun H1 e Q k =>
  ⟨.ref pa, hi, pa, [vf, .ref q], 1, .ref q, rfl, rfl, (hp.keep (keep_same e)).sq, rfl, k _ H1 (.refl _) ⟨q, qs, rfl, .inl (.inl (e _ _ hq)), hd.same e⟩⟩
theorem eb_stk {vs : List V} (h : H sp = some (.lst vs)) (hi : σ[i]? = some (some (.ref sp))) : EB (fun σ H Q => tVar i σ H fun x H' => ∃ k, TruV K x H' k ∧ Q k H') σ H (!vs.isEmpty) := fun H1 e Q k =>
  ⟨.ref sp, hi, _, .inl ⟨vs, SqL.of (e _ _ h), rfl⟩, k H1 (.refl _)⟩
/-- the entry of a new residue -/
theorem en_new {H1 : Hp} {v1 : V} {c tt : Addr} {t : Tg} {a : List PyData} {ks : List Rs} {mf : List Nat → Rule} (hz : RzOk K H1 H v (.pw (.tuple (.str (Tg.s t) :: a)) (.lst (ks.map dR)))) (h1 : Td K H v1 (dR G)) (hc : H c = none) (ht : upd H c (.lst []) tt = none) : ∃ q, H1 q = none ∧ (∃ qs, H q = some (.lst qs)) ∧ EnOk K (upd (upd H c (.lst [])) tt (.tup [v1, v, .ref c])) (.ref tt) ⟨G, t, a, ks, mf, [], c, q⟩ := by
  obtain ⟨pa, vf, q, o, rfl, h2, h3, h4, h5, qs, rfl, h6⟩ := hz
  have eA : Same H (upd H c (.lst [])) := same_upd hc
  have e := eA.trans (same_upd (o := .tup [v1, .ref pa, .ref c]) ht)
  exact ⟨q, h4, ⟨qs, h5⟩, tt, v1, pa, vf, rfl, .inl upd_same, h1.same e, h2.keep (keep_same e), h3.same e, ⟨qs, e _ _ h5, h6.same e⟩, (same_upd ht) _ _ upd_same⟩
end
theorem off_upd {H H' : Hp} {y : Addr} {o : HO} (e : Same (off [y] H) H') (hy : H' y = some o) : Same (upd H y o) H' := fun a u z => by
  by_cases q : a = y
  · subst q
    rw [upd_same] at z
    rw [← z]; exact hy
  · rw [upd_ne q] at z
    exact e a u (by rw [off_out (by simpa using q)]; exact z)
theorem off_upd2 {H H' : Hp} {y x : Addr} {o o2 : HO} (hyx : y ≠ x) (e : Same (off [y, x] H) H') (hy : H' y = some o) (hx : H' x = some o2) : Same (upd (upd H y o) x o2) H' := fun a u z => by
  by_cases q2 : a = x
  · subst q2
    rw [upd_same] at z
    rw [← z]; exact hx
  · rw [upd_ne q2] at z
    by_cases q : a = y
    · subst q
      rw [upd_same] at z
      rw [← z]; exact hy
    · rw [upd_ne q] at z
      exact e a u (by rw [off_out (by simp [q, q2])]; exact z)
theorem paired_mp {α β : Type} {A B : α → β → Prop} : ∀ {xs : List α} {ys : List β}, Paired A xs ys → (∀ y ∈ ys, ∀ x, A x y → B x y) → Paired B xs ys
  | _, _, .nil, _ => .nil
  | _, _, .cons h t, f => .cons (f _ List.mem_cons_self _ h) (paired_mp t fun y hy => f y (List.mem_cons_of_mem _ hy))
theorem push_ok {P : Program} {w : World} {K : PySem.W.Frag} {H0 Hk H1 H8 : Hp} {y n kn : Addr} {S Hd : List Int} {R0 : Rs} {p : Pol} {u u' : Int} {σ : L2.St} {Γ : List Sl} {nodes : List Node} {es : List NdE} {G : Rs} {v v1 : V} {vs : List V} {zs : List En} {c tt : Addr} {t : Tg} {a : List PyData} {ks : List Rs} {mf : List Nat → Rule}
    (R : Rel K H0 Hk H1 σ Γ) (nw : ∀ (i : Nat) (a : Addr) (c : Ct), Γ[i]? ≠ some (Sl.w a c)) (hy0 : H0 y = none) (h : MkO K H1 y n kn S Hd R0 p u) (hN : Nds K H1 n nodes) (hK : Kn P w K H1 kn es nodes) (hP : Paired (EnOk K H1) vs zs)
    (e8 : Same (off [y] H1) H8) (h8 : MkO K H8 y n kn S Hd R0 p u') (hz : RzOk K (off [y] H1) H8 v (.pw (.tuple (.str (Tg.s t) :: a)) (.lst (ks.map dR)))) (t1 : Td K H1 v1 (dR G)) (hc : H8 c = none) (ht : upd H8 c (.lst []) tt = none) :
    ∃ q, Rel K H0 Hk (upd (upd H8 c (.lst [])) tt (.tup [v1, v, .ref c])) σ Γ ∧ MkO K (upd (upd H8 c (.lst [])) tt (.tup [v1, v, .ref c])) y n kn S Hd R0 p u' ∧ Nds K (upd (upd H8 c (.lst [])) tt (.tup [v1, v, .ref c])) n nodes ∧ Kn P w K (upd (upd H8 c (.lst [])) tt (.tup [v1, v, .ref c])) kn es nodes ∧
      Paired (EnOk K (upd (upd H8 c (.lst [])) tt (.tup [v1, v, .ref c]))) vs zs ∧ EnOk K (upd (upd H8 c (.lst [])) tt (.tup [v1, v, .ref c])) (.ref tt) ⟨G, t, a, ks, mf, [], c, q⟩ ∧
      (∀ b xs, H1 b = some (.lst xs) → upd (upd H8 c (.lst [])) tt (.tup [v1, v, .ref c]) b = some (.lst xs) ∧ c ≠ b ∧ q ≠ b) ∧ c ≠ q ∧ H0 c = none ∧ (∃ xs, upd (upd H8 c (.lst [])) tt (.tup [v1, v, .ref c]) c = some (.lst xs)) ∧ ∃ xs, upd (upd H8 c (.lst [])) tt (.tup [v1, v, .ref c]) q = some (.lst xs) := by
  obtain ⟨dx8, x81, x82, a81, a82, a83⟩ := id h8
  have eU := off_upd e8 a81
  have nt := h.nt
  have eAB : Same H8 (upd (upd H8 c (.lst [])) tt (.tup [v1, v, .ref c])) := (same_upd hc).trans (same_upd ht)
  have R8 := (R.other (o := .ins (He.ga K "Maker") dx8 (mkF x81 x82 u' n kn)) hy0 nt fun i a c q => absurd q (nw i a c)).same eU
  have t8 : Td K H8 v1 (dR G) := (t1.k (keep_upd nt)).same eU
  obtain ⟨q, q1, ⟨qs, q2⟩, eN⟩ := en_new (mf := mf) hz t8 hc ht
  have fr : ∀ b xs, H1 b = some (.lst xs) → H8 b = some (.lst xs) ∧ c ≠ b ∧ q ≠ b := fun b xs hb => by
    have yb := mk_ne h hb
    have ho : off [y] H1 b = some (.lst xs) := by rw [off_out (by simpa using yb.symm)]; exact hb
    have hb8 := e8 b _ ho
    refine ⟨hb8, fun e => ?_, fun e => ?_⟩
    · subst e; rw [hc] at hb8; cases hb8
    · subst e; rw [q1] at ho; cases ho
  obtain ⟨xn, n1, n2⟩ := id hN
  have ny : n ≠ y := (mk_ne h n1).symm
  have ky : kn ≠ y := fun e => by
    obtain ⟨dx, w1, w2, b1, _⟩ := id h
    subst e
    have z := Option.some.inj (hK.1.symm.trans b1)
    unfold NdO at z
    cases z
  refine ⟨q, R8.same eAB, h8.same eAB, ((hN.other nt ny).same eU).same eAB, ((hK.other nt ky).same eU).same eAB, paired_imp (fun v z hv => ?_) hP, eN, fun b xs hb => ⟨eAB _ _ (fr b xs hb).1, (fr b xs hb).2⟩, fun e => ?_, R8.base.free hc, ⟨[], (same_upd ht) _ _ upd_same⟩, qs, eAB _ _ q2⟩
  · obtain ⟨_, _, _, _, _, _, _, _, _, ⟨qs', g1, _⟩, g2⟩ := id hv
    exact ((hv.other nt (mk_ne h g1).symm (mk_ne h g2).symm).same eU).same eAB
  · subst e
    rw [hc] at q2
    cases q2
theorem paired_mem {α β : Type} {A : α → β → Prop} : ∀ {xs : List α} {ys : List β} {y : β}, Paired A xs ys → y ∈ ys → ∃ x, A x y
  | _, _, _, .nil, h => by cases h
  | _, _, _, .cons r t, h => by
    rcases List.mem_cons.mp h with rfl | h
    · exact ⟨_, r⟩
    · exact paired_mem t h
theorem mem_sumW {p3 : Bool} {k : Rs} : ∀ {ks : List Rs}, k ∈ ks → Wt p3 k ≤ (ks.map (Wt p3)).sum
  | z :: ks, h => by
    simp only [List.map_cons, List.sum_cons]
    rcases List.mem_cons.mp h with rfl | h
    · omega
    · have := mem_sumW (p3 := p3) h; omega
theorem kid_small {S : List Int} {p3 : Bool} {nodes : List Node} {z : En} {k : Rs} (h : EnM S p3 nodes z) (hk : k ∈ z.ks) : RB S k ∧ k.length ≤ 700 := by
  obtain ⟨g1, g2⟩ := rb_kid h.1 h.2.1 hk
  have h1 := Wt_kids h.1 h.2.1
  have h2 := mem_sumW (p3 := p3) hk
  have h3 := h.2.2.1
  have h4 := Wt_pos p3 k
  exact ⟨g1, by omega⟩
def LI (P : Program) (w : World) (K : PySem.W.Frag) (S Hd : List Int) (R0 : Rs) (p : Pol) (H0 Hk : Hp) (y n kn sp : Addr) (F : Rs) (us : List En) (σ : L2.St) (H : Hp) : Prop := ∃ (num : Int) (u : Int) (nodes : List Node) (es : List NdE) (vs : List V), Rel K H0 Hk H σ [.v (.ref y), .t (dR F), .v (.ref sp), .t (.int num), .any, .any, .any, .any] ∧
  MkO K H y n kn S Hd R0 p u ∧ Nds K H n nodes ∧ Kn P w K H kn es nodes ∧ H sp = some (.lst vs) ∧ Paired (EnOk K H) vs us.reverse ∧ Sep H0 sp n us ∧ MkM S p.p3 F us nodes u
section
variable {P : Program} {w : World} {K : PySem.W.Frag} {mg : Str → Option Value} {base : Heap}
/-- number_of(residue), of a new maker -/
def spMn (P : Program) (w : World) (K : PySem.W.Frag) : Sp := fun vs H Q _ => ∃ y n kn S Hd R0 p v2 R, vs = [.ref y, v2] ∧ Td K H v2 (dR R) ∧ RB S R ∧ R.length + Wt p.p3 R ≤ 700 ∧ n ≠ kn ∧ MkO K H y n kn S Hd R0 p 0 ∧ Nds K H n [] ∧ Kn P w K H kn [] [] ∧
  ∀ H' m u nodes, Same (off [y, n, kn] H) H' → MkO K H' y n kn S Hd R0 p u → Nds K H' n nodes → SheetOk S p.p3 nodes → (∃ pre r, nodes = pre ++ [(R, r)]) → nodes.length ≤ 700 → Q (.int m) H'
abbrev NMn : List Str := ["self", "residue", "stack", "number", "here", "plan", "children", "wanted"]
theorem sc_Mn : FnScope NMn ["self", "residue"] (defScope sQMaker_number_of) := ⟨rfl, rfl, rfl, by decide +kernel, rfl, by decide +kernel, by decide +kernel⟩
theorem met_Maker_number_of (T : Tx K mg base) : Met P w K mg base 12 (He.ga K "Maker") "number_of" (spMn P w K) [] := by
  have sc := sc_Mn
  have C := T.mkC
  refine met_of T 62 104 80 rfl rfl rfl sc (fun _ _ _ _ _ _ us hl => match us, hl with | [_, _], _ => rfl) (fun vs H Q E h => ?_) fun cdv A outer s H vs Q E hr h => ?_
  · obtain ⟨_, _, _, _, _, _, _, _, _, rfl, _⟩ := h; rfl
  refine ⟨_, (pss_cons (ps_if (pt_cmp (pc_ndin (u64 hr) (pv 1) (pe_fld (pv 0) rfl)))
      (pss_one (ps_ret (pe_ndget (u64 hr) (pe_fld (pv 0) rfl) (pv 1) (fun _ _ => rfl))))
      pss_nil)
    (pss_cons (ps_set (i := 2) sc.nd rfl (by first | exact Or.inl rfl | exact Or.inr rfl) (pe_lst (pa_cons (pe_tup (pa_cons (pv 1) (pa_cons (pe_mt (met_Maker_plan T) hr (by decide) (pv 0) (pa_cons (pv 1) pa_nil)) (pa_cons (pe_lst pa_nil) pa_nil)))) pa_nil)))
    (pss_cons (ps_set (i := 3) sc.nd rfl (by first | exact Or.inl rfl | exact Or.inr rfl) pe_int)
    (pss_cons (ps_while PassesOwn.never (pt_truth (pv 2) (by intro _; rfl))
      (pss_cons (ps_asg (pe_ix ix_list (pv 2) (pe_un un_neg pe_int) (fun _ _ => rfl)) (pg_tup rfl (pgs_cons (pg_name (i := 4) sc.nd rfl (by first | exact Or.inl rfl | exact Or.inr rfl)) (pgs_cons (pg_name (i := 5) sc.nd rfl (by first | exact Or.inl rfl | exact Or.inr rfl)) (pgs_cons (pg_name (i := 6) sc.nd rfl (by first | exact Or.inl rfl | exact Or.inr rfl)) pgs_nil)))))
      (pss_one (ps_if (pt_cmpR op_lt (pe_callB call_len_seq (by rfl) T.f_len (by decide +kernel) (pa_cons (pv 6) pa_nil)) (pe_callB call_len_seq (by rfl) T.f_len (by decide +kernel) (pa_cons (pe_ix ix_tup (pv 5) pe_int (fun _ _ => rfl)) pa_nil)) (nomark _))
        (pss_cons (ps_set (i := 7) sc.nd rfl (by first | exact Or.inl rfl | exact Or.inr rfl) (pe_ix ix_list (pe_ix ix_tup (pv 5) pe_int (fun _ _ => rfl)) (pe_callB call_len_seq (by rfl) T.f_len (by decide +kernel) (pa_cons (pv 6) pa_nil)) (fun _ _ => rfl)))
        (pss_one (ps_if (pt_cmp (pc_ndin (u64 hr) (pv 7) (pe_fld (pv 0) rfl)))
          (pss_one (ps_expr (pe_bm PySem.F.plainAttrs_list PySem.F.slot_list_append PySem.F.type_list_append mt_append (pv 6) (pa_cons (pe_ndget (u64 hr) (pe_fld (pv 0) rfl) (pv 7) (fun _ _ => rfl)) pa_nil))))
          (pss_one (ps_expr (pe_bm PySem.F.plainAttrs_list PySem.F.slot_list_append PySem.F.type_list_append mt_append (pv 2) (pa_cons (pe_tup (pa_cons (pv 7) (pa_cons (pe_mt (met_Maker_plan T) hr (by decide) (pv 0) (pa_cons (pv 7) pa_nil)) (pa_cons (pe_lst pa_nil) pa_nil)))) pa_nil)))))))
        (pss_cons (ps_set (i := 3) sc.nd rfl (by first | exact Or.inl rfl | exact Or.inr rfl) (pe_mt (met_Maker_made T) hr (by decide) (pv 0) (pa_cons (pv 4) (pa_cons (pe_ix ix_tup (pv 5) pe_int (fun _ _ => rfl)) (pa_cons (pv 6) pa_nil)))))
        (pss_cons (ps_expr (pe_bm0 PySem.F.plainAttrs_list PySem.F.slot_list_pop PySem.F.type_list_pop mt_pop (pv 2)))
        (pss_one (ps_if (pt_truth (pv 2) (by intro _; rfl))
          (pss_one (ps_expr (pe_bm PySem.F.plainAttrs_list PySem.F.slot_list_append PySem.F.type_list_append mt_append (pe_ix ix_tup (pe_ix ix_list (pv 2) (pe_un un_neg pe_int) (fun _ _ => rfl)) pe_int (fun _ _ => rfl)) (pa_cons (pv 3) pa_nil))))
          pss_nil))))))))
    (pss_one (ps_ret (pv 3))))))), ?_⟩
  obtain ⟨y, n, kn, S, Hd, R0, p, w2, F, rfl, t2, hF, hW, hnk, h, hN, hK, k⟩ := h
  have R := rel_off [y, n, kn] (K := K) (H := H) (N := NMn) (vs := [.ref y, w2]) (as := [.v (.ref y), .t (dR F)]) (.cons rfl (.cons t2 .nil)) (by simp) (by simp)
  refine sq (s_if (b := false) (eb_B (et_kin (P := P) (w := w) (i := 1) (j := 0) C h hK R rfl rfl)) (fun hb => by cases hb) fun _ H1 e1 => ?_)
  have R1 := R.same e1
  have h1 := h.same e1
  have hN1 := hN.same e1
  have hK1 := hK.same e1
  obtain ⟨dx, x1, x2, a1, a2, a3⟩ := id h1
  obtain ⟨wf, f1, f2⟩ := R1.sl 1 _ rfl
  try unfold tNext
  try dsimp only
  refine sq ⟨wf, f1, .ref y, rfl, y, dx, _, rfl, a1, rfl, wf, f1, y, n, kn, S, Hd, R0, p, 0, wf, F, rfl, f2, hF, by omega, by decide, h1, fun v8 H8 c t a ks mf c0 c1 e8 h8 hp8 hz8 => ⟨by decide, fun ca hca => ⟨sz1000 (by simp), fun tt htt => ⟨sz1000 (by simp), fun sp hsp => ?_⟩⟩⟩⟩
  obtain ⟨xn, n1, n2⟩ := id hN1
  obtain ⟨q, RB, hB, hNB, hKB, _, eN, fr, cq, c0n, ⟨xc, xc1⟩, ⟨xq, xq1⟩⟩ := push_ok (mf := mf) (vs := []) (zs := []) R1 (fun i a c q => by
    rcases i with _ | _ | _ | _ | _ | _ | _ | _ | i <;> simp [slots, slOf] at q) (off_in (by simp)) h1 hN1 hK1 .nil e8 h8 hz8 f2 hca htt
  generalize upd (upd H8 ca (.lst [])) tt (.tup [wf, v8, .ref ca]) = HB at *
  have ec : Same HB (upd HB sp (.lst [.ref tt])) := same_upd hsp
  have nsp : n ≠ sp := fun e => by
    obtain ⟨_, z, _⟩ := hNB
    subst e
    rw [hsp] at z
    cases z
  have sp0 : off [y, n, kn] H sp = none := RB.base.free hsp
  have RC := (RB.same ec).set_v 2 (.ref sp)
  have hC := hB.same ec
  have hNC := hNB.same ec
  have hKC := hKB.same ec
  have eNC := eN.same ec
  have spC : upd HB sp (.lst [.ref tt]) sp = some (.lst [.ref tt]) := upd_same
  have sepa : ca ≠ sp ∧ q ≠ sp := by
    constructor
    · intro e; rw [e, hsp] at xc1; cases xc1
    · intro e; rw [e, hsp] at xq1; cases xq1
  have sep0 : Sep (off [y, n, kn] H) sp n [⟨F, t, a, ks, mf, [], ca, q⟩] := ⟨fun z hz => (by
    obtain rfl := List.mem_singleton.mp hz
    exact ⟨sepa.1, (fr n xn n1).2.1, sepa.2, (fr n xn n1).2.2, cq, c0n⟩), List.pairwise_singleton _ _⟩
  generalize upd HB sp (.lst [.ref tt]) = HC at *
  try unfold tNext
  try dsimp only
  refine sq (s_set RC et_int fun σ2 H2 e2 R2 => ?_)
  try unfold tNext
  try dsimp only
  refine sq (s_while (ι := List En) (fun us _ σ' H' => LI P w K S Hd R0 p (off [y, n, kn] H) H y n kn sp F us σ' H') (muE p.p3) (z0 := [⟨F, t, a, ks, mf, [], ca, q⟩]) ⟨0, 0 + c, [], [], [.ref tt], R2.eq rfl, hC.same e2, hNC.same e2, hKC.same e2, e2 _ _ spC, .cons (eNC.same e2) .nil, sep0, MkM.start hF hW rfl hp8 rfl c1⟩ fun us σ3 H3 ⟨num, u, nodes, es, vs, R3, h3, hN3, hK3, sp3, hP3, hS3, hM3⟩ => ?_)
  have y3 : σ3[0]? = some (some (.ref y)) := R3.sl 0 _ rfl
  have s3 : σ3[2]? = some (some (.ref sp)) := R3.sl 2 _ rfl
  refine ⟨_, eb_stk sp3 s3, fun hb H4 e4 => ?_, fun hb H4 e4 => ?_⟩
  · obtain ⟨z, us, rfl⟩ : ∃ z us', us = z :: us' := by
      cases us with
      | nil => cases hP3; cases hb
      | cons z us => exact ⟨z, us, rfl⟩
    rw [List.reverse_cons] at hP3
    obtain ⟨vs', vt, rfl, hP', hE⟩ := paired_unsnoc hP3
    have R4 := R3.same e4
    have h4 := h3.same e4
    have hN4 := hN3.same e4
    have hK4 := hK3.same e4
    have sp4 := e4 _ _ sp3
    have hP4 := paired_imp (fun _ _ q => EnOk.same e4 q) hP'
    have hE4 := hE.same e4
    clear R3 h3 hN3 hK3 sp3 hP3 hP' hE
    obtain ⟨tt', vr, pa, vf, rfl, T2, tvr, T4, tvf, ⟨qs, hq, tqs⟩, hc⟩ := id hE4
    obtain ⟨m1, m2, m3, m4, m5, m6⟩ := hS3.a z List.mem_cons_self
    have hz := hM3.en z List.mem_cons_self
    have hsm := hM3.small
    refine sq ⟨.ref sp, s3, 1, rfl, sp, vs' ++ [.ref tt'], -1, .ref tt', rfl, rfl, SqL.of sp4, L2.atI_last _ _, tt', [vr, .ref pa, .ref z.c], rfl, T2.sq, rfl, vr, _, rfl, .ref pa, _, rfl, .ref z.c, [], rfl, rfl, ?_⟩
    have R5 : Rel K (off [y, n, kn] H) H H4 (((σ3.set 4 (some vr)).set 5 (some (.ref pa))).set 6 (some (.ref z.c))) [.v (.ref y), .t (dR F), .v (.ref sp), .t (.int num), .t (dR z.R), .v (.ref pa), .v (.ref z.c), .any] := (((R4.set_t 4 tvr).set_v 5 (.ref pa)).set_v 6 (.ref z.c)).eq rfl
    clear R4
    generalize ((σ3.set 4 (some vr)).set 5 (some (.ref pa))).set 6 (some (.ref z.c)) = σ5 at R5 ⊢
    have y5 : σ5[0]? = some (some (.ref y)) := R5.sl 0 _ rfl
    have s5 : σ5[2]? = some (some (.ref sp)) := R5.sl 2 _ rfl
    have p5 : σ5[5]? = some (some (.ref pa)) := R5.sl 5 _ rfl
    have c5 : σ5[6]? = some (some (.ref z.c)) := R5.sl 6 _ rfl
    try unfold tNext
    try dsimp only
    refine s_if (eb_t (et_ib (et_lenL (e1_lst hc c5)) (et_lenL (e1_plan T4 hq tqs p5)))) (fun hb6 H6 e6 => ?_) fun hb6 H6 e6 => ?_
    · have hlt : z.ns.length < z.ks.length := by
        have := of_decide_eq_true hb6
        simp only [List.length_map] at this
        omega
      obtain ⟨kk, hkk⟩ : ∃ kk, z.ks[z.ns.length]? = some kk := ⟨_, List.getElem?_eq_getElem hlt⟩
      have R6 := R5.same e6
      have T46 := T4.keep (keep_same e6)
      have hq6 := e6 _ _ hq
      have tqs6 := tqs.same e6
      have hc6 := e6 _ _ hc
      refine sq (s_set R6 (et_ixL (e1_plan T46 hq6 tqs6 p5) (et_lenL (e1_lst hc6 c5)) (d := dR kk) (by rw [List.length_map]; exact CW.atI_nat (by rw [List.getElem?_map, hkk]; rfl))) fun σ7 H7 e7 R7 => ?_)
      have e47 := e6.trans e7
      have h7 := h4.same e47
      have hK7 := hK4.same e47
      have y7 : σ7[0]? = some (some (.ref y)) := R7.sl 0 _ rfl
      have s7 : σ7[2]? = some (some (.ref sp)) := R7.sl 2 _ rfl
      have c7 : σ7[6]? = some (some (.ref z.c)) := R7.sl 6 _ rfl
      try unfold tNext
      try dsimp only
      refine s_if (eb_B (et_kin (P := P) (w := w) (i := 7) (j := 0) C h7 hK7 R7 rfl y7)) (fun hb8 H8 e8 => ?_) fun hb8 H8 e8 => ?_
      · obtain ⟨vg, hg⟩ := Option.isSome_iff_exists.mp hb8
        obtain ⟨i, rfl, hi⟩ := esok_get hK7.2.2 hg
        have e48 := e47.trans e8
        have hc8 := e48 _ _ hc
        refine ⟨.ref z.c, c7, .inl ⟨rfl, _, SqL.of hc8⟩, ?_⟩
        refine (et_kget (P := P) (w := w) (i := 7) (j := 0) C (h4.same e48) (hK4.same e48) (R7.same e8) rfl y7 hg) H8 (.refl _) _ fun v9 H9 e9 t9 => ?_
        obtain rfl := t9.i
        have e49 := e48.trans e9
        have hc9 := e49 _ _ hc
        refine ⟨z.c, z.ns.map nV, .int (i : Int), rfl, rfl, hc9, by rw [List.length_map]; exact Nat.lt_of_le_of_lt (show z.ns.length ≤ 900 by have := (ks_len hz).1; omega) (by decide), ?_⟩
        have nt9 := lst_nt hc9
        obtain ⟨xn', nn1, nn2⟩ := id hN4
        obtain ⟨M1, M2⟩ := hM3.child hkk hi
        have hpw := List.pairwise_cons.mp hS3.b
        have kp9 := keep_upd (o := .lst (z.ns.map nV ++ [.int (i : Int)])) nt9
        refine ⟨_, M2, num, u, nodes, es, vs' ++ [.ref tt'], ((((((R7.same e8).same e9).other (q := z.c) m6 nt9 (fun i a c q => by
          rcases i with _ | _ | _ | _ | _ | _ | _ | _ | i <;> simp at q)).forget 4).forget 5).forget 6).forget 7 |>.eq rfl, (h4.same e49).other (mk_ne (h4.same e49) hc9) nt9, (hN4.same e49).other nt9 m2.symm, (hK4.same e49).other nt9 (kn_ne (hK4.same e49) hc9), by rw [upd_ne m1.symm]; exact e49 _ _ sp4, ?_, ⟨fun x hx => ?_, List.pairwise_cons.mpr hpw⟩, M1⟩
        · rw [List.reverse_cons]
          refine paired_snoc ⟨tt', vr, pa, vf, rfl, (T2.keep (keep_same e49)).keep kp9, (tvr.same e49).k kp9, (T4.keep (keep_same e49)).keep kp9, (tvf.same e49).k kp9, ⟨qs, by
            show upd H9 z.c _ z.q = _
            rw [upd_ne m5.symm]; exact e49 _ _ hq, (tqs.same e49).k kp9⟩, by
              show upd H9 z.c _ z.c = _
              rw [upd_same, List.map_append]; rfl⟩ (paired_mp hP4 fun x hx v hv => ?_)
          have := hpw.1 x (List.mem_reverse.mp hx)
          exact (hv.same e49).other nt9 this.2.1.symm this.1.symm
        · rcases List.mem_cons.mp hx with rfl | hx
          · exact ⟨m1, m2, m3, m4, m5, m6⟩
          · exact hS3.a x (List.mem_cons_of_mem _ hx)
      · have e48 := e47.trans e8
        have R8 := R7.same e8
        have h8 := h4.same e48
        have hN8 := hN4.same e48
        have hK8 := hK4.same e48
        have sp8 := e48 _ _ sp4
        have hPf : Paired (EnOk K H8) (vs' ++ [.ref tt']) (us.reverse ++ [z]) := paired_snoc (hE4.same e48) (paired_imp (fun _ _ q => EnOk.same e48 q) hP4)
        obtain ⟨w7, g7, t7⟩ := R8.sl 7 _ rfl
        obtain ⟨dx8, x81, x82, a81, a82, a83⟩ := id h8
        obtain ⟨kr, kl⟩ := kid_small hz (List.mem_of_getElem? hkk)
        have lv : (vs' ++ [V.ref tt']).length ≤ 700 := by
          rw [Paired.length hPf]
          have := hM3.pt
          have := pot_len (p3 := p.p3) (z :: us)
          simp only [List.length_append, List.length_reverse, List.length_cons, List.length_nil] at *
          omega
        refine ⟨.ref sp, s7, .inl ⟨rfl, _, SqL.of sp8⟩, w7, g7, .ref y, y7, y, dx8, _, rfl, a81, rfl, w7, g7, y, n, kn, S, Hd, R0, p, u, w7, kk, rfl, t7, kr, kl, by omega, h8, fun v9 H9 c9 t9 a9 ks9 mf9 c90 c91 e9 h9 hp9 hz9 => ⟨by decide, fun cb hcb => ⟨sz1000 (by simp), fun tb htb => ?_⟩⟩⟩
        obtain ⟨q9, RB, hB, hNB, hKB, hPB, eN9, fr9, cq9, c0n9, _, _⟩ := push_ok (mf := mf9) R8 (fun i a c q => by
          rcases i with _ | _ | _ | _ | _ | _ | _ | _ | i <;> simp at q) (off_in (by simp)) h8 hN8 hK8 hPf e9 h9 hz9 t7 hcb htb
        obtain ⟨spB, sc, sq9⟩ := fr9 sp _ sp8
        obtain ⟨xn', nn1, nn2⟩ := id hN8
        obtain ⟨_, nc, nq⟩ := fr9 n _ nn1
        obtain ⟨M1, M2⟩ := hM3.push (w := ⟨kk, t9, a9, ks9, mf9, [], cb, q9⟩) hkk hp9 rfl c91
        generalize upd (upd H9 cb (.lst [])) tb (.tup [w7, v9, .ref cb]) = HD at *
        refine ⟨sp, vs' ++ [.ref tt'], .ref tb, rfl, rfl, spB, Nat.lt_of_le_of_lt lv (by decide), ?_⟩
        have ntB := lst_nt spB
        refine ⟨_, M2, num, u + c9, nodes, es, _, ((((RB.other (q := sp) sp0 ntB (fun i a c q => by
          rcases i with _ | _ | _ | _ | _ | _ | _ | _ | i <;> simp at q)).forget 4).forget 5).forget 6).forget 7 |>.eq rfl, hB.other (mk_ne hB spB) ntB, hNB.other ntB nsp, hKB.other ntB (kn_ne hKB spB), upd_same, ?_, ⟨fun x hx => ?_, List.pairwise_cons.mpr ⟨fun x hx => ?_, hS3.b⟩⟩, M1⟩
        · rw [List.reverse_cons, List.reverse_cons]
          refine paired_snoc (eN9.other ntB sq9 sc) (paired_mp hPB fun x hx v hv => ?_)
          have hx' : x ∈ z :: us := by
            rcases List.mem_append.mp hx with hx | hx
            · exact List.mem_cons_of_mem _ (List.mem_reverse.mp hx)
            · rw [List.mem_singleton.mp hx]; exact List.mem_cons_self
          have := hS3.a x hx'
          exact hv.other ntB this.2.2.1 this.1
        · rcases List.mem_cons.mp hx with rfl | hx
          · exact ⟨sc, nc, sq9, nq, cq9, c0n9⟩
          · exact hS3.a x hx
        · have hx' : x ∈ us.reverse ++ [z] := by
            rcases List.mem_cons.mp hx with rfl | hx
            · simp
            · simp [hx]
          obtain ⟨v, _, _, _, _, _, _, _, _, _, ⟨qs', g1, _⟩, g2⟩ := paired_mem hPf hx'
          exact ⟨(fr9 _ _ g2).2.1, (fr9 _ _ g1).2.1, (fr9 _ _ g2).2.2⟩
    · have hge : z.ns.length = z.ks.length := by
        have := of_decide_eq_false hb6
        simp only [List.length_map] at this
        have := hz.2.2.2.1
        omega
      have R6 := R5.same e6
      have h6 := h4.same e6
      have hN6 := hN4.same e6
      have hK6 := hK4.same e6
      have sp6 := e6 _ _ sp4
      have T46 := T4.keep (keep_same e6)
      obtain ⟨v4, g4, t4⟩ := R6.sl 4 _ rfl
      obtain ⟨dx6, x61, x62, a61, a62, a63⟩ := id h6
      have hkl := (ks_len hz).1
      refine sq ⟨.ref y, y5, y, dx6, _, rfl, a61, rfl, v4, g4, .ref pa, p5, pa, [vf, .ref z.q], 0, vf, rfl, rfl, T46.sq, rfl, .ref z.c, c5, y, n, kn, S, Hd, R0, p, u, v4, vf, z.c, z.R, z.t, z.a, z.ks, z.mf, z.ns, nodes, es, rfl, t4, tvf.same e6, e6 _ _ hc, hz.1, hge, by omega, by omega, hnk, h6, hN6, hK6, fun H7 es' e7 h7 hN7 hK7 => ?_⟩
      obtain ⟨xn6, nn1, nn2⟩ := id hN6
      obtain ⟨xn7, nn3, nn4⟩ := id hN7
      have eU2 := off_upd2 hnk e7 nn3 hK7.1
      have nt1 := lst_nt nn1
      have ntk : ∀ xs, upd H6 n (.lst xn7) kn ≠ some (.tup xs) := fun xs e => by
        rw [upd_ne hnk.symm, hK6.1] at e
        exact nd_nt xs (Option.some.inj e)
      have R7 := (((R6.other (q := n) (o := .lst xn7) (off_in (by simp)) nt1 (fun i a c q => by
        rcases i with _ | _ | _ | _ | _ | _ | _ | _ | i <;> simp at q)).other (q := kn) (o := NdO P w kn es') (off_in (by simp)) ntk (fun i a c q => by
        rcases i with _ | _ | _ | _ | _ | _ | _ | _ | i <;> simp at q)).same eU2).set_t 3 (.int (nodes.length : Int))
      have sp7 : H7 sp = some (.lst (vs' ++ [.ref tt'])) := eU2 _ _ (by rw [upd_ne (kn_ne hK6 sp6).symm, upd_ne nsp.symm]; exact sp6)
      have mv : ∀ (v : V) (x : En), x ∈ z :: us → EnOk K H4 v x → EnOk K H7 v x := fun v x hx hv => by
        have hv6 := hv.same e6
        obtain ⟨_, _, _, _, _, _, _, _, _, ⟨qs', g1, _⟩, g2⟩ := id hv6
        have hA := hS3.a x hx
        exact ((hv6.other nt1 hA.2.2.2.1 hA.2.1).other ntk (kn_ne hK6 g1).symm (kn_ne hK6 g2).symm).same eU2
      have hP7 := paired_mp hP4 fun x hx v hv => mv v x (List.mem_cons_of_mem _ (List.mem_reverse.mp hx)) hv
      have s7 : (σ5.set 3 (some (.int (nodes.length : Int))))[2]? = some (some (.ref sp)) := R7.sl 2 _ rfl
      try unfold tNext
      try dsimp only
      refine sq ⟨.ref sp, s7, .inl ⟨rfl, _, SqL.of sp7⟩, sp, vs' ++ [.ref tt'], .ref tt', rfl, rfl, sp7, by simp, ?_⟩
      have hdl : (vs' ++ [V.ref tt']).dropLast = vs' := by simp
      rw [hdl]
      have nt7 := lst_nt sp7
      have R8 : Rel K (off [y, n, kn] H) H (upd H7 sp (.lst vs')) (σ5.set 3 (some (.int (nodes.length : Int)))) [.v (.ref y), .t (dR F), .v (.ref sp), .t (.int (nodes.length : Int)), .any, .any, .any, .any] := ((((R7.other (q := sp) (o := .lst vs') sp0 nt7 (fun i a c q => by
          rcases i with _ | _ | _ | _ | _ | _ | _ | _ | i <;> simp at q)).forget 4).forget 5).forget 6).forget 7 |>.eq rfl
      have h8 := h7.other (o := .lst vs') (mk_ne h7 sp7) nt7
      have hN8 := hN7.other (o := .lst vs') nt7 nsp
      have hK8 := hK7.other (o := .lst vs') nt7 (kn_ne hK7 sp7)
      have sp8 : upd H7 sp (.lst vs') sp = some (.lst vs') := upd_same
      have hP8 := paired_mp hP7 fun x hx v hv => (by
        have hA := hS3.a x (List.mem_cons_of_mem _ (List.mem_reverse.mp hx))
        exact hv.other (a := sp) (o := .lst vs') nt7 hA.2.2.1 hA.1 : EnOk K (upd H7 sp (.lst vs')) v x)
      generalize upd H7 sp (.lst vs') = H8 at *
      obtain ⟨M0, M1, M2⟩ := hM3.pop hge
      try unfold tNext
      try dsimp only
      refine s_if (eb_stk sp8 s7) (fun hb9 H9 e9 => ?_) fun hb9 H9 e9 => ?_
      · obtain ⟨x, us', rfl⟩ : ∃ x us', us = x :: us' := by
          cases us with
          | nil => cases hP8; cases hb9
          | cons x us' => exact ⟨x, us', rfl⟩
        rw [List.reverse_cons] at hP8
        obtain ⟨vs2, vx, rfl, hP9, hE9⟩ := paired_unsnoc hP8
        obtain ⟨tx, vrx, pax, vfx, rfl, X2, X3, X4, X5, ⟨qsx, X6, X7⟩, X8⟩ := hE9.same e9
        obtain ⟨n1', n2', n3', n4', n5', n6'⟩ := hS3.a x (by simp)
        obtain ⟨M3, M4⟩ := M2 x us' rfl
        have h9 := h8.same e9
        have hN9 := hN8.same e9
        have hK9 := hK8.same e9
        have sp9 := e9 _ _ sp8
        have s3' : (σ5.set 3 (some (.int (nodes.length : Int))))[3]? = some (some (.int (nodes.length : Int))) := by
          obtain ⟨u3, u31, u32⟩ := R8.sl 3 _ rfl
          rw [u31, u32.i]
        have hxm := (hM3.en x (by simp)).2.2.2.1
        have hxk := (ks_len (hM3.en x (by simp))).1
        refine ⟨.ref sp, s7, 1, rfl, sp, vs2 ++ [.ref tx], -1, .ref tx, rfl, rfl, SqL.of sp9, L2.atI_last _ _, tx, [vrx, .ref pax, .ref x.c], 2, .ref x.c, rfl, rfl, X2.sq, rfl, .inl ⟨rfl, _, SqL.of X8⟩, .int (nodes.length : Int), s3', x.c, x.ns.map nV, .int (nodes.length : Int), rfl, rfl, X8, by rw [List.length_map]; exact Nat.lt_of_le_of_lt (show x.ns.length ≤ 900 by omega) (by decide), ?_⟩
        have nt9 := lst_nt X8
        have hpw := (List.pairwise_cons.mp (List.pairwise_cons.mp hS3.b).2)
        have kp9 := keep_upd (o := .lst (x.ns.map nV ++ [.int (nodes.length : Int)])) nt9
        refine ⟨_, M4, (nodes.length : Int), u, _, es', vs2 ++ [.ref tx], (R8.same e9).other (q := x.c) n6' nt9 (fun i a c q => by
          rcases i with _ | _ | _ | _ | _ | _ | _ | _ | i <;> simp at q), h9.other (mk_ne h9 X8) nt9, hN9.other nt9 n2'.symm, hK9.other nt9 (kn_ne hK9 X8), by rw [upd_ne n1'.symm]; exact sp9, ?_, ⟨fun b hb => ?_, List.pairwise_cons.mpr hpw⟩, M3⟩
        · rw [List.reverse_cons]
          refine paired_snoc ⟨tx, vrx, pax, vfx, rfl, X2.keep kp9, X3.k kp9, X4.keep kp9, X5.k kp9, ⟨qsx, by
            show upd H9 x.c _ x.q = _
            rw [upd_ne n5'.symm]; exact X6, X7.k kp9⟩, by
              show upd H9 x.c _ x.c = _
              rw [upd_same, List.map_append]; rfl⟩ (paired_mp hP9 fun b hb v hv => ?_)
          have := hpw.1 b (List.mem_reverse.mp hb)
          exact (hv.same e9).other nt9 this.2.1.symm this.1.symm
        · rcases List.mem_cons.mp hb with rfl | hb
          · exact ⟨n1', n2', n3', n4', n5', n6'⟩
          · exact hS3.a b (by simp [hb])
      · have hus : us = [] := by
          cases vs' with
          | nil =>
            have := Paired.length hP8
            simp at this
            exact List.length_eq_zero_iff.mp this.symm
          | cons v vs => cases hb9
        subst hus
        obtain ⟨M3, M4⟩ := M1 rfl
        exact ⟨[], M4, (nodes.length : Int), u, _, es', vs', R8.same e9, h8.same e9, hN8.same e9, hK8.same e9, e9 _ _ sp8, paired_imp (fun _ _ q => EnOk.same e9 q) hP8, ⟨fun z hz => (by cases hz), List.Pairwise.nil⟩, M3⟩
  · have hus : us = [] := by
      cases vs with
      | nil =>
        have := Paired.length hP3
        simp at this
        exact List.length_eq_zero_iff.mp this.symm
      | cons v vs => cases hb
    subst hus
    have hsm := hM3.small
    refine s_ret (et_v (R3.same e4) rfl) fun v5 H5 e5 t5 => ?_
    rw [t5.i]
    exact k H5 num u nodes (((R3.same e4).base).trans e5) ((h3.same e4).same e5) ((hN3.same e4).same e5) hM3.sh (hM3.last rfl) hsm.2
end
end CW

set_option maxRecDepth 100000
set_option maxHeartbeats 4000000
/-! Maker(..), compile_sheet. -/
namespace CW
open PySem PySem.Spec PyProof.Rows L2
open C8 (Cal Met Mak pe_c pe_mk pe_mt pe_mt0)
section
variable {P : Program} {w : World} {K : PySem.W.Frag} {mg : Str → Option Value} {base : Heap}
/-- Maker(formula, policy, fuel) -/
def spMi (P : Program) (w : World) (K : PySem.W.Frag) : Sp := fun vs H Q _ => ∃ x dx v1 v2 S Hd R0 p, vs = [.ref x, v1, v2, .int 100000] ∧ Td K H v1 (dF S Hd R0) ∧ Td K H v2 (dP p) ∧ H x = some (.ins (He.ga K "Maker") dx []) ∧
  ∀ H' n kn, Same (off [x] H) H' → H n = none → H kn = none → n ≠ kn → MkO K H' x n kn S Hd R0 p 0 → Nds K H' n [] → Kn P w K H' kn [] [] → Q .non H'
abbrev NMi : List Str := ["self", "formula", "policy", "fuel"]
theorem sc_Mi : FnScope NMi ["self", "formula", "policy", "fuel"] (defScope sQMaker_init) := ⟨rfl, rfl, rfl, by decide +kernel, rfl, by decide +kernel, by decide +kernel⟩
theorem mak_Maker (T : Tx K mg base) : Mak P w K mg base 1 "Maker" (He.ga K "Maker") (spMi P w K) [] := by
  have sc := sc_Mi
  have C := T.mkC
  refine mak_of T 56 79 81 rfl rfl rfl sc (fun _ _ _ _ _ _ us hl => match us, hl with | [_, _, _, _], _ => rfl) (fun vs H Q E h => ?_) fun cdv A outer s H vs Q E hr h => ?_
  · obtain ⟨_, _, _, _, _, _, _, _, rfl, _⟩ := h; rfl
  refine ⟨_, (pss_cons (ps_fld (pv 0) (pv 1) rfl)
    (pss_cons (ps_fld (pv 0) (pv 2) rfl)
    (pss_cons (ps_fld (pv 0) (pv 3) rfl)
    (pss_cons (ps_fld (pv 0) pe_int rfl)
    (pss_cons (ps_fld (pv 0) (pe_lst pa_nil) rfl)
    (pss_one (ps_fld (pv 0) pe_ndnew rfl))))))), ?_⟩
  obtain ⟨x, dx, v1, v2, S, Hd, R0, p, rfl, t1, t2, hx, k⟩ := h
  refine sq ⟨v1, rfl, .ref x, rfl, x, _, dx, _, rfl, hx, C.c, C.n1, by decide, ?_⟩
  refine sq ⟨v2, rfl, .ref x, rfl, x, _, dx, [("formula", v1)], rfl, upd_same, C.c, C.n2, by simp, ?_⟩
  refine sq ⟨.int 100000, rfl, .ref x, rfl, x, _, dx, [("formula", v1), ("policy", v2)], rfl, upd_same, C.c, C.n3, by simp, ?_⟩
  refine sq ⟨.ref x, rfl, x, _, dx, [("formula", v1), ("policy", v2), ("fuel", .int 100000)], rfl, upd_same, C.c, C.n4, by simp, ?_⟩
  have nx : ∀ (G : Hp) (o : HO) (xs : List V), (∀ ys, o ≠ .tup ys) → upd G x o x ≠ some (.tup xs) := fun G o xs ho e => by
    rw [upd_same] at e
    exact ho _ (Option.some.inj e)
  have n0 : ∀ xs, H x ≠ some (.tup xs) := fun xs e => by rw [hx] at e; cases e
  have eF : Same (off [x] H) (upd (upd (upd (upd H x (.ins (He.ga K "Maker") dx [("formula", v1)])) x (.ins (He.ga K "Maker") dx [("formula", v1), ("policy", v2)])) x (.ins (He.ga K "Maker") dx [("formula", v1), ("policy", v2), ("fuel", .int 100000)])) x (.ins (He.ga K "Maker") dx [("formula", v1), ("policy", v2), ("fuel", .int 100000), ("used", .int 0)])) :=
    same_mut (same_mut (same_mut (same_mut off_same (off_in (by simp))) (off_in (by simp))) (off_in (by simp))) (off_in (by simp))
  have kF : Keep H (upd (upd (upd (upd H x (.ins (He.ga K "Maker") dx [("formula", v1)])) x (.ins (He.ga K "Maker") dx [("formula", v1), ("policy", v2)])) x (.ins (He.ga K "Maker") dx [("formula", v1), ("policy", v2), ("fuel", .int 100000)])) x (.ins (He.ga K "Maker") dx [("formula", v1), ("policy", v2), ("fuel", .int 100000), ("used", .int 0)])) :=
    (keep_upd n0).trans ((keep_upd fun xs => nx _ _ xs (fun ys e => by cases e)).trans ((keep_upd fun xs => nx _ _ xs (fun ys e => by cases e)).trans (keep_upd fun xs => nx _ _ xs (fun ys e => by cases e))))
  have xF : upd (upd (upd (upd H x (.ins (He.ga K "Maker") dx [("formula", v1)])) x (.ins (He.ga K "Maker") dx [("formula", v1), ("policy", v2)])) x (.ins (He.ga K "Maker") dx [("formula", v1), ("policy", v2), ("fuel", .int 100000)])) x (.ins (He.ga K "Maker") dx [("formula", v1), ("policy", v2), ("fuel", .int 100000), ("used", .int 0)]) x = some (.ins (He.ga K "Maker") dx [("formula", v1), ("policy", v2), ("fuel", .int 100000), ("used", .int 0)]) := upd_same
  show tSeq _ _ _ _ (upd (upd (upd (upd H x (.ins (He.ga K "Maker") dx [("formula", v1)])) x (.ins (He.ga K "Maker") dx [("formula", v1), ("policy", v2)])) x (.ins (He.ga K "Maker") dx [("formula", v1), ("policy", v2), ("fuel", .int 100000)])) x (.ins (He.ga K "Maker") dx [("formula", v1), ("policy", v2), ("fuel", .int 100000), ("used", .int 0)]))
  generalize upd (upd (upd (upd H x (.ins (He.ga K "Maker") dx [("formula", v1)])) x (.ins (He.ga K "Maker") dx [("formula", v1), ("policy", v2)])) x (.ins (He.ga K "Maker") dx [("formula", v1), ("policy", v2), ("fuel", .int 100000)])) x (.ins (He.ga K "Maker") dx [("formula", v1), ("policy", v2), ("fuel", .int 100000), ("used", .int 0)]) = HF at *
  refine sq ⟨by decide, fun n hn => ⟨.ref x, rfl, x, _, dx, [("formula", v1), ("policy", v2), ("fuel", .int 100000), ("used", .int 0)], rfl, (same_upd hn) _ _ xF, C.c, C.n5, by simp, ?_⟩⟩
  have xn : x ≠ n := fun e => by subst e; rw [hn] at xF; cases xF
  refine fun kn hkn => ⟨.ref x, rfl, x, _, dx, [("formula", v1), ("policy", v2), ("fuel", .int 100000), ("used", .int 0), ("nodes", .ref n)], rfl, (same_upd hkn) _ _ upd_same, C.c, C.n6, by simp, ?_⟩
  have xk : x ≠ kn := fun e => by subst e; rw [upd_same] at hkn; cases hkn
  have nk : n ≠ kn := fun e => by subst e; rw [upd_ne xn.symm, upd_same] at hkn; cases hkn
  have e1 := same_upd (o := .lst []) hn
  have x1 := e1 _ _ xF
  have nt1 : ∀ xs, upd HF n (.lst []) x ≠ some (.tup xs) := fun xs e => by rw [x1] at e; cases e
  have k2 := keep_upd (o := .ins (He.ga K "Maker") dx [("formula", v1), ("policy", v2), ("fuel", .int 100000), ("used", .int 0), ("nodes", .ref n)]) nt1
  have k3 := keep_same (same_upd (o := NdO P w kn []) hkn)
  have nt4 : ∀ xs, upd (upd (upd HF n (.lst [])) x (.ins (He.ga K "Maker") dx [("formula", v1), ("policy", v2), ("fuel", .int 100000), ("used", .int 0), ("nodes", .ref n)])) kn (NdO P w kn []) x ≠ some (.tup xs) := fun xs e => by
    rw [upd_ne xk, upd_same] at e; cases e
  have k4 := keep_upd (o := .ins (He.ga K "Maker") dx (mkF v1 v2 0 n kn)) nt4
  have kA := kF.trans ((keep_same e1).trans (k2.trans (k3.trans k4)))
  have hn0 : off [x] H n = none := eF.free hn
  have hk0 : off [x] H kn = none := (same_mut (eF.trans e1) (off_in (by simp))).free hkn
  rw [off_out (by simpa using xn.symm)] at hn0
  rw [off_out (by simpa using xk.symm)] at hk0
  refine k _ n kn ?_ hn0 hk0 nk ⟨dx, v1, v2, upd_same, t1.k kA, t2.k kA⟩ ⟨[], ?_, .nil⟩ ⟨?_, (fun e he => by cases he), Nat.zero_le _, (fun e he => by cases he)⟩
  · exact same_mut (same_mut (same_mut (eF.trans e1) (off_in (by simp))) (by rw [off_out (by simpa using xk.symm)]; exact hk0)) (off_in (by simp))
  · show upd (upd (upd (upd HF n (.lst [])) x _) kn _) x _ n = _
    rw [upd_ne xn.symm, upd_ne nk, upd_ne xn.symm, upd_same]
  · show upd (upd (upd (upd HF n (.lst [])) x _) kn _) x _ kn = _
    rw [upd_ne xk.symm, upd_same]
    rfl
/-- compile_sheet(formula, policy) -/
def spCS (P : Program) (w : World) (K : PySem.W.Frag) : Sp := fun vs H Q _ => ∃ v1 v2 S Hd R0 p, vs = [v1, v2, .int 100000] ∧ Td K H v1 (dF S Hd R0) ∧ Td K H v2 (dP p) ∧ p.od.ok ∧ RB S R0 ∧ R0.length + Wt p.p3 R0 ≤ 700 ∧
  ∀ v H' nodes, Same H H' → Td K H' v (dSh S Hd R0 nodes) → SheetOk S p.p3 nodes → (∃ pre r, nodes = pre ++ [(R0, r)]) → nodes.length ≤ 700 → Q v H'
theorem e1_nodes {H : Hp} {σ : L2.St} {i : Nat} {y n kn : Addr} {S Hd : List Int} {R0 : Rs} {p : Pol} {u : Int} {nodes : List Node} (C : MkC K) (h : MkO K H y n kn S Hd R0 p u) (hn : Nds K H n nodes) (hi : σ[i]? = some (some (.ref y))) : E1 K (tFld K (tVar i) "nodes") σ H (.l (nodes.map encN)) := fun H1 e Q k => by
  obtain ⟨dx, v1, v2, a, b, c⟩ := h.same e
  obtain ⟨vs, c1, c2⟩ := hn.same e
  exact ⟨_, hi, y, _, dx, _, .ref n, rfl, a, C.c, C.n5, rfl, k _ H1 (.refl _) ⟨n, vs, rfl, .inl (.inl c1), c2⟩⟩
abbrev Ncompile_sheet : List Str := ["formula", "policy", "fuel", "maker"]
theorem sc_compile_sheet : FnScope Ncompile_sheet ["formula", "policy", "fuel"] (defScope sQcompile_sheet) := ⟨rfl, rfl, rfl, by decide +kernel, rfl, by decide +kernel, by decide +kernel⟩
theorem cal_compile_sheet (T : Tx K mg base) : Cal P w K mg base 13 "compile_sheet" (spCS P w K) [.int 100000] := by
  have sc := sc_compile_sheet
  have C := T.mkC
  obtain ⟨fd, F⟩ := T.fn 63
  have F' : FunD K "compile_sheet" "compile_sheet" (defArgs sQcompile_sheet) (defBody sQcompile_sheet) (defScope sQcompile_sheet) [] [("fuel", .int 100000)] (He.ga K "compile_sheet") fd := F
  obtain ⟨ds, dv, b⟩ := F'.binds0 (ps := ["formula", "policy", "fuel"]) 2 (by simp) rfl fun D doc pm an cdv ct us ks hu hk => match us, ks, hu, hk with
    | [_, _], [_], _, _ => ⟨_, _, _, _, _, _, rfl, rfl, rfl⟩
  refine ⟨⟨He.ga K "compile_sheet", fd, ["formula", "policy", "fuel"], ds, F'.ok (CX := CX0) (k := 12) sc (fun vs H Q E h => ?_) (fun cdv A outer s H vs Q E hr h => ?_), T.glo 48 rfl, F'.kp, b, dv⟩⟩
  · obtain ⟨_, _, _, _, _, _, rfl, _⟩ := h; rfl
  suffices ∃ t, PSs (cxOf CX0 P w K mg base Ncompile_sheet "compile_sheet" (defScope sQcompile_sheet) (He.ga K "compile_sheet") cdv A outer s H E).nox (defBody sQcompile_sheet) t ∧ t { nx := fun _ H' => Q .non H', rt := Q } (start Ncompile_sheet vs) H by
    obtain ⟨t, q1, q2⟩ := this
    exact ⟨t, q1.nox, q2⟩
  refine ⟨_, (pss_cons (ps_if (pt_not (pt_val (pe_c (cal_is_policy T) hr (by decide) rfl (pa_cons (pv 1) pa_nil))))
      (pss_one ps_never)
      pss_nil)
    (pss_cons (ps_set (i := 3) sc.nd rfl (by first | exact Or.inl rfl | exact Or.inr rfl) (pe_mk (mak_Maker T) hr (by decide) rfl (pa_cons (pv 0) (pa_cons (pv 1) (pa_cons (pv 2) pa_nil)))))
    (pss_cons (ps_expr (pe_mt (met_Maker_number_of T) hr (by decide) (pv 3) (pa_cons (pe_ix ix_tup (pv 0) pe_int (fun _ _ => rfl)) pa_nil)))
    (pss_one (ps_ret (pe_tup (pa_cons (pv 0) (pa_cons (pe_callTy call_tuple_of (by rfl) T.f_tuple (by decide +kernel) (pa_cons (pe_fld (pv 3) rfl) pa_nil)) pa_nil)))))))), ?_⟩
  obtain ⟨v1, v2, S, Hd, R0, p, rfl, t1, t2, ho, hR, hW, k⟩ := h
  have R := rel_start (K := K) (H := H) (N := Ncompile_sheet) (vs := [v1, v2, .int 100000]) (as := [.t (dF S Hd R0), .t (dP p), .t (.int 100000)]) (.cons t1 (.cons t2 (.cons (.int _) .nil))) (by simp)
  refine sq (s_if (b := false) (eb_not (b := true) (eb_B (et_call (ea_t (et_v R rfl) ea_nil) ⟨p, rfl, ho, rfl⟩))) (fun hb => by cases hb) fun _ H1 e1 => ?_)
  have R1 := R.same e1
  try unfold tNext
  try dsimp only
  refine sq ⟨v1, rfl, v2, rfl, .int 100000, rfl, fun x dx hx hdx hne => ⟨x, dx, v1, v2, S, Hd, R0, p, rfl, ?_⟩⟩
  have hx' : upd H1 dx (.own x) x = none := by rw [upd_ne hne.symm]; exact hx
  have eG : Same H1 (upd (upd H1 dx (.own x)) x (.ins (He.ga K "Maker") dx [])) := (same_upd hdx).trans (same_upd hx')
  refine ⟨(t1.same e1).same eG, (t2.same e1).same eG, upd_same, fun H2 n kn e2 gn gk hnk h2 hN2 hK2 => ⟨rfl, ?_⟩⟩
  have x0 : H x = none := e1.free hx
  have ntx : ∀ a ∈ [x], ∀ xs, upd (upd H1 dx (.own x)) x (.ins (He.ga K "Maker") dx []) a ≠ some (.tup xs) := fun a ha xs e => by
    obtain rfl := List.mem_singleton.mp ha
    rw [upd_same] at e; cases e
  have R2 := (((R1.same eG).offs [x] e2 (by simpa using x0) ntx (fun i a c q => by
    rcases i with _ | _ | _ | _ | i <;> simp [slots, slOf] at q)).set_v 3 (.ref x))
  obtain ⟨dx2, x1, x2, a1, a2, a3⟩ := id h2
  have s3 : ((start Ncompile_sheet [v1, v2, .int 100000]).set 3 (some (.ref x)))[3]? = some (some (.ref x)) := R2.sl 3 _ rfl
  try unfold tNext
  try dsimp only
  refine sq ⟨.ref x, s3, x, dx2, _, rfl, a1, rfl, ?_⟩
  refine (ea_t (et_ixT (et_v R2 (i := 0) rfl) et_int (d := dR R0) rfl) ea_nil) H2 (.refl _) _ fun vs H3 e3 t3 => ?_
  obtain ⟨v3, rfl, u3⟩ : ∃ v3, vs = [v3] ∧ Td K H3 v3 (dR R0) := by
    cases t3 with
    | cons a t =>
      cases t
      exact ⟨_, rfl, a⟩
  have h3 := h2.same e3
  have hN3 := hN2.same e3
  have hK3 : Kn P w K H3 kn [] [] := hK2.same e3
  have n0 : H n = none := (e1.trans eG).free gn
  have k0 : H kn = none := (e1.trans eG).free gk
  refine ⟨x, n, kn, S, Hd, R0, p, v3, R0, rfl, u3, hR, hW, hnk, h3, hN3, hK3, fun H4 m u nodes e4 h4 hN4 hsh hla hle => ?_⟩
  have R4 := (R2.same e3).offs [x, n, kn] e4 (fun a ha => by
    simp only [List.mem_cons, List.not_mem_nil, or_false] at ha
    rcases ha with rfl | rfl | rfl
    · exact x0
    · exact n0
    · exact k0) (fun a ha xs e => by
    simp only [List.mem_cons, List.not_mem_nil, or_false] at ha
    rcases ha with rfl | rfl | rfl
    · exact h3.nt xs e
    · obtain ⟨vs, q1, _⟩ := hN3; rw [q1] at e; cases e
    · rw [hK3.1] at e; exact nd_nt xs (Option.some.inj e)) (fun i a c q => by
    rcases i with _ | _ | _ | _ | i <;> simp [slots, slOf] at q)
  try unfold tNext
  try dsimp only
  exact s_retT R4 (et_tup (ds := [dF S Hd R0, .tuple (nodes.map encN)]) (ea_t (et_v R4 (i := 0) rfl) (ea_t (et_tupleL (e1_nodes C h4 hN4 s3)) ea_nil))) fun v H5 e5 t5 => k v H5 nodes e5 t5 hsh hla hle
end
end CW

set_option maxRecDepth 100000
set_option maxHeartbeats 4000000
/-! sorted(x) of data; the law: _law_key, _law_clause. -/
namespace CW
open PySem PySem.Spec PyProof.Rows L2
open C8 (Cal Met Mak pe_c pe_mk pe_mt pe_mt0)
/-- sorted(a list): A is whatever the items are known to stand for -/
def rSortD (K : PySem.W.Frag) : List V → Hp → VK → Prop := fun vs H Q => ∃ (a : Addr) (us : List V) (β : Type) (enc : β → PyData) (bs : List β) (A : V → β → Prop), vs = [.ref a] ∧ SqL K H a us ∧ Paired (fun v b => A v b ∧ Dp K H v (enc b)) us bs ∧ PySem.W.AllAlike (bs.map enc) ∧ PySem.W.Sortable (bs.map enc) ∧ bs.length ≤ 100000 ∧ (∀ b ∈ bs, (enc b).depth ≤ 8) ∧
  ∀ ys p, Paired A ys (bs.mergeSort (PySem.W.dataLe false enc)) → H p = none → Q (.ref p) (upd H p (.lst ys))
section
variable {X : Cx}
theorem each_pair {β : Type} {A : V → β → Prop} : ∀ {us : List V} {vs : List Value} {bs : List β}, Paired A us bs → Vals us vs → PySem.W.EachIs (fun v b => ∃ y, RelV y v ∧ A y b) vs bs
  | _, _, _, .nil, r => by cases r; exact .nil
  | _, _, _, .cons h t, r => by
    cases r with
    | cons a b => exact .cons ⟨_, a, h⟩ (each_pair t b)
theorem pair_each {β : Type} {A : V → β → Prop} : ∀ {vs : List Value} {bs : List β}, PySem.W.EachIs (fun v b => ∃ y, RelV y v ∧ A y b) vs bs → ∃ us, Vals us vs ∧ Paired A us bs
  | _, _, .nil => ⟨[], .nil, .nil⟩
  | _, _, .cons ⟨y, h1, h2⟩ t => by
    obtain ⟨us, h3, h4⟩ := pair_each t
    exact ⟨y :: us, .cons h1 h3, .cons h2 h4⟩
theorem each_imp {β : Type} {A B : Value → β → Prop} (f : ∀ v b, A v b → B v b) : ∀ {vs : List Value} {bs : List β}, PySem.W.EachIs A vs bs → PySem.W.EachIs B vs bs
  | _, _, .nil => .nil
  | _, _, .cons h t => .cons (f _ _ h) (each_imp f t)
theorem cr_sortD (hu : X.A.units + 65 < cLine) : CallR X (.builtin "sorted") (rSortD X.K) := by
  intro pins s σ H vs us Q I r h
  obtain ⟨a, xs, β, enc, bs, A, rfl, hs, hp, hal, hsr, hz, hd, q⟩ := h
  obtain ⟨its, rv, hl, hzl⟩ := I.list hs
  rw [Vals.ref1 r]
  have e0 := each_pair hp rv
  have e1 : PySem.W.EachIs (fun v b => ∃ y, RelV y v ∧ A y b) its bs := each_imp (fun v b ⟨y, h1, h2, _⟩ => ⟨y, h1, h2⟩) e0
  have e2 : PySem.W.EachIs (fun v b => ∃ as, Reads s.heap v (enc b) as) its bs := each_imp (fun v b ⟨y, h1, _, h3⟩ => Dp.reads I _ _ _ h3 h1) e0
  refine PySem.W.sorted_data hl.isList e1 e2 hal hsr (Nat.le_trans hz (by decide)) (fun b hb => by have := hd b hb; omega) fun out h1 h2 => ?_
  obtain ⟨ys, g1, g2⟩ := pair_each h2
  obtain ⟨ep, he'⟩ := PyProof.Rows.sortedAll_at s.heap its out.toArray
  have hlen : ys.length ≤ sizeLine := by
    rw [Paired.length g1, h1]
    exact Nat.le_trans hz (by decide)
  exact ⟨.ref _, upd H (s.heap.objs.size + 1) (.lst ys), I.laid (t' := s.toks) (fun _ _ => PyProof.Rows.sortedAll_old) (Nat.le_succ _) ⟨hlen, out, ep, g1, he'⟩, rfl, q _ _ g2 (I.hok.fresh (Nat.le_succ _))⟩
end
section
variable {K : PySem.W.Frag} {H : Hp} {σ : L2.St} {ta : TE}
theorem td_pair {β : Type} {enc : β → PyData} : ∀ {vs : List V} {bs : List β}, TdAll K H vs (bs.map enc) → Paired (fun v b => Td K H v (enc b)) vs bs
  | _, [], h => by cases h; exact .nil
  | _, b :: bs, h => by
    have h' : TdAll K H _ (enc b :: bs.map enc) := h
    cases h' with
    | cons x y => exact .cons x (td_pair y)
theorem pair_td {β : Type} {enc : β → PyData} : ∀ {vs : List V} {bs : List β}, Paired (fun v b => Td K H v (enc b)) vs bs → TdAll K H vs (bs.map enc)
  | _, _, .nil => .nil
  | _, _, .cons x y => .cons x (pair_td y)
/-- sorted(a list of data without lists) -/
theorem el_sortD {β : Type} {enc : β → PyData} {bs : List β} (ha : E1 K ta σ H (.l (bs.map enc))) (hal : PySem.W.AllAlike (bs.map enc)) (hs : PySem.W.Sortable (bs.map enc)) (hz : bs.length ≤ 100000) (hd : ∀ b ∈ bs, (enc b).depth ≤ 8) : EL K (tCB (rSortD K) (tCons ta tNil)) σ H ((bs.mergeSort (PySem.W.dataLe false enc)).map enc) := fun H1 e Q k =>
  ha H1 e _ fun v H2 e2 h2 => by
    obtain ⟨a, vs, rfl, t, q⟩ := h2
    refine ⟨a, vs, β, enc, bs, fun v b => Td K H2 v (enc b), rfl, t, paired_imp (fun v b h => ⟨h, Td.dp _ _ h⟩) (td_pair q), hal, hs, hz, hd, fun ys p h1 h3 => ?_⟩
    exact k p ys _ (e2.free h3) (e2.trans (same_upd h3)) upd_same ((pair_td h1).same (same_upd h3))
end
def P_law_key (as : List Ar) (d : PyData) : Prop := ∃ l : Int, as = [.t (.int l)] ∧ d = litKey l
def P_law_clause (as : List Ar) (d : PyData) : Prop := ∃ ls : List Int, as = [.l (ls.map .int)] ∧ ls.length ≤ 900 ∧ d = dC (sortL ls)
section
variable {P : Program} {w : World} {K : PySem.W.Frag} {mg : Str → Option Value} {base : Heap}
abbrev Nlaw_key : List Str := ["_law_literal"]
theorem sc_law_key : FnScope Nlaw_key ["_law_literal"] (defScope sQlaw_key) := ⟨rfl, rfl, rfl, by decide +kernel, rfl, by decide +kernel, by decide +kernel⟩
theorem cal_law_key (T : Tx K mg base) : Cal P w K mg base 1 "_law_key" (spT K P_law_key) [] := by
  have sc := sc_law_key
  refine cal_t T 66 51 rfl rfl sc (fun _ _ _ _ _ _ us hl => match us, hl with | [_], _ => rfl) (fun as d h => ?_) (by decide) fun cdv A outer s H Q E hr => ?_
  · (first | (obtain ⟨_, rfl, _⟩ := h; rfl) | (obtain ⟨_, _, rfl, _⟩ := h; rfl) | (obtain ⟨_, _, _, rfl, _⟩ := h; rfl) | (obtain ⟨_, _, _, _, rfl, _⟩ := h; rfl) | (obtain ⟨_, _, _, _, _, rfl, _⟩ := h; rfl) | (obtain ⟨_, _, _, _, _, _, rfl, _⟩ := h; rfl) | (obtain ⟨_, _, _, _, _, _, _, rfl, _⟩ := h; rfl) | (obtain ⟨_, _, _, _, _, _, _, _, rfl, _⟩ := h; rfl))
  refine ⟨_, (pss_one (ps_ret (pe_tup (pa_cons (pe_callB call_abs (by rfl) T.f_abs (by decide +kernel) (pa_cons (pv 0) pa_nil)) (pa_cons (pe_ifExp (pt_cmpR op_gt (pv 0) pe_int (nomark _)) pe_int pe_int) pa_nil))))), fun as d h k σ R => ?_⟩
  obtain ⟨l, rfl, rfl⟩ := h
  have e : litKey l = .tuple [.int (if l < 0 then -l else l), .int (if l > 0 then 1 else 0)] := by
    unfold litKey
    by_cases q : l > 0
    · rw [if_pos q, if_pos q, if_neg (by omega)]
    · rw [if_neg q, if_neg q]
      by_cases q2 : l < 0
      · rw [if_pos q2]
      · have : l = 0 := by omega
        subst this
        rfl
  rw [e] at k
  refine s_retT R (et_tup (ds := [_, _]) (ea_t (et_abs (et_v R rfl)) (ea_t (et_if (b := decide (l > 0)) (eb_t (et_ib (et_v R rfl) et_int)) (fun hb => ?_) fun hb => ?_) ea_nil))) k
  · rw [if_pos (of_decide_eq_true hb)]
    exact et_int
  · rw [if_neg (of_decide_eq_false hb)]
    exact et_int
theorem alike_key : ∀ a b : Int, PySem.W.alike (litKey a) (litKey b) = true := alike_litKey
abbrev Nlaw_clause : List Str := ["_law_literals", "_law_pair", "_law_literal"]
theorem sc_law_clause : FnScope Nlaw_clause ["_law_literals"] (defScope sQlaw_clause) := ⟨rfl, rfl, rfl, by decide +kernel, rfl, by decide +kernel, by decide +kernel⟩
theorem cal_law_clause (T : Tx K mg base) : Cal P w K mg base 2 "_law_clause" (spT K P_law_clause) [] := by
  have sc := sc_law_clause
  refine cal_t T 68 53 rfl rfl sc (fun _ _ _ _ _ _ us hl => match us, hl with | [_], _ => rfl) (fun as d h => ?_) (by decide) fun cdv A outer s H Q E hr => ?_
  · (first | (obtain ⟨_, rfl, _⟩ := h; rfl) | (obtain ⟨_, _, rfl, _⟩ := h; rfl) | (obtain ⟨_, _, _, rfl, _⟩ := h; rfl) | (obtain ⟨_, _, _, _, rfl, _⟩ := h; rfl) | (obtain ⟨_, _, _, _, _, rfl, _⟩ := h; rfl) | (obtain ⟨_, _, _, _, _, _, rfl, _⟩ := h; rfl) | (obtain ⟨_, _, _, _, _, _, _, rfl, _⟩ := h; rfl) | (obtain ⟨_, _, _, _, _, _, _, _, rfl, _⟩ := h; rfl))
  refine ⟨_, (pss_one (ps_ret (pe_callTy call_tuple_of (by rfl) T.f_tuple (by decide +kernel) (pa_cons (pe_lc (own := [("_law_pair", 1)]) rfl sc.nd (pi_list (pe_callB (cr_sortD (u65 hr)) (by rfl) T.f_sorted (by decide +kernel) (pa_cons (pe_lc (own := [("_law_literal", 2)]) rfl sc.nd (pi_list (pv 0)) (blkOk_by (own := [("_law_literal", 2)]) (N := Nlaw_clause) (sc := defScope sQlaw_clause) (by decide +kernel)) (fun _ _ _ _ _ => (pg_name (i := 2) sc.nd rfl (Or.inl rfl))) (fun _ _ _ _ _ => pts_nil) (fun _ _ _ _ _ => (pe_c (cal_law_key T) hr (by decide) rfl (pa_cons (pv 2) pa_nil)))) pa_nil))) (blkOk_by (own := [("_law_pair", 1)]) (N := Nlaw_clause) (sc := defScope sQlaw_clause) (by decide +kernel)) (fun _ _ _ _ _ => (pg_name (i := 1) sc.nd rfl (Or.inl rfl))) (fun _ _ _ _ _ => pts_nil) (fun _ _ _ _ _ => (pe_op op_mul (pe_ix (k_ix_tup K rfl) (pv 1) pe_int (fun _ _ => rfl)) (pe_op op_sub (pe_op op_mul pe_int (pe_ix (k_ix_tup K rfl) (pv 1) pe_int (fun _ _ => rfl))) pe_int)))) pa_nil)))), fun as d h k σ R => ?_⟩
  obtain ⟨ls, rfl, hl, rfl⟩ := h
  have hm : ∀ l, litKey l = .tuple [.int (iabs l), .int (if l > 0 then 1 else 0)] := fun l => by
    unfold litKey iabs
    by_cases q : l > 0
    · rw [if_pos q, if_pos q, if_neg (by omega)]
    · rw [if_neg q, if_neg q]
      by_cases q2 : l < 0
      · rw [if_pos q2]
      · have : l = 0 := by omega
        subst this
        rfl
  have hp : (sortL ls).length ≤ 900 := by
    unfold sortL
    rw [(List.mergeSort_perm _ _).length_eq]
    exact hl
  refine s_retT R (et_tupleL (EL.e1 (EL.eq (el_mapL (xs := sortL ls) (enc := litKey) (f := fun l => .int (iabs l * (2 * (if l > 0 then 1 else 0) - 1))) R (EL.e1 (el_sortD (bs := ls) (enc := litKey) (EL.e1 (el_mapL (xs := ls) (enc := .int) (f := litKey) R (e1_r R rfl) (Nat.le_trans hl (by decide)) fun n l hn σ2 H2 R2 e2 => et_call (ea_t (et_v R2 rfl) ea_nil) ⟨l, rfl, rfl⟩)) (PySem.W.AllAlike.of alike_litKey) (.inl fun d hd => by
    obtain ⟨l, _, rfl⟩ := List.mem_map.mp hd
    exact ⟨_, _, hm l⟩) (Nat.le_trans hl (by decide)) fun l _ => by
      rw [hm]
      simp [PyData.depth, PyData.depthAll])) (Nat.le_trans hp (by decide)) fun n l hn σ2 H2 R2 e2 => ?_) ?_))) k
  · have R3 := R2
    rw [hm] at R3
    exact et_iC (C := CMul) (g := (· * ·)) (et_ixT (ds := [.int (iabs l), .int (if l > 0 then 1 else 0)]) (et_v R3 (i := 1) rfl) (et_int (n := 0)) (d := .int (iabs l)) rfl) (et_i (g := (· - ·)) (et_iC (C := CMul) (g := (· * ·)) et_int (et_ixT (ds := [.int (iabs l), .int (if l > 0 then 1 else 0)]) (et_v R3 (i := 1) rfl) (et_int (n := 1)) (d := .int (if l > 0 then 1 else 0)) rfl) (.inl ⟨by decide, by decide⟩)) et_int) (.inr (by split <;> exact ⟨by decide, by decide⟩))
  · refine List.map_congr_left fun l _ => ?_
    show PyData.int _ = .int l
    congr 1
    unfold iabs
    by_cases q : l > 0
    · rw [if_pos q, if_neg (by omega)]; omega
    · rw [if_neg q]
      split <;> omega
end
end CW

set_option maxRecDepth 100000
set_option maxHeartbeats 4000000
/-! The law's draw: _law_draw, _law_take. -/
namespace CW
open PySem PySem.Spec PyProof.Rows L2
open C8 (Cal Met Mak pe_c pe_mk pe_mt pe_mt0)
def drL (cp : Addr) (a b c : Int) : List V := [.ref cp, .int a, .int b, .int c]
abbrev drS (dp cp : Addr) (a b c : Int) : Sl := Sl.w dp (.raw (.lst (drL cp a b c)) [])
structure Dr (H : Hp) (dp cp : Addr) (cells : List Int) (a b c : Int) : Prop where
  d : H dp = some (.lst (drL cp a b c))
  c : H cp = some (.lst (cells.map V.int))
  ne : dp ≠ cp
  lo : -1 ≤ a
  len : cells.length ≤ 90000
theorem Dr.same {H H' : Hp} {dp cp : Addr} {cells : List Int} {a b c : Int} (e : Same H H') (h : Dr H dp cp cells a b c) : Dr H' dp cp cells a b c := ⟨e _ _ h.d, e _ _ h.c, h.ne, h.lo, h.len⟩
section
variable {K : PySem.W.Frag} {H0 Hk H H' : Hp} {σ : L2.St} {Γ : List Sl} {te ta : TE} {dp cp : Addr} {cells : List Int} {a b c n : Int} {i : Nat} {D : Ends} {xs : List V}
/-- a slot's object told as our own, the only one -/
theorem Rel.own1 (R : Rel K H0 Hk H σ Γ) {p : Addr} {o : HO} {ct : Ct} {i : Nat} (h : σ[i]? = some (some (.ref p))) (h0 : H0 p = none) (ho : H p = some o) (hc : CtOk K H ct o) (nw : ∀ (j : Nat) (q : Addr) (c : Ct), Γ[j]? = some (Sl.w q c) → q ≠ p) : Rel K H0 Hk H σ (Γ.set i (Sl.w p ct)) := by
  refine ⟨R.base, R.keep, by rw [List.length_set]; exact R.len, fun j s hj => ?_, fun j k q r c1 c2 ne h1 h2 => ?_⟩
  · rcases get_set hj with ⟨rfl, rfl, _⟩ | ⟨_, h'⟩
    · exact ⟨h, h0, o, ho, hc⟩
    · exact R.sl j s h'
  · rcases get_set h1 with ⟨rfl, e1, _⟩ | ⟨_, h1'⟩ <;> rcases get_set h2 with ⟨rfl, e2, _⟩ | ⟨_, h2'⟩
    · exact absurd rfl ne
    · cases e1
      exact (nw _ _ _ h2').symm
    · cases e2
      exact nw _ _ _ h1'
    · exact R.own j k q r c1 c2 ne h1' h2'
theorem raw_at (R : Rel K H0 Hk H σ Γ) (h : Γ[i]? = some (Sl.w dp (.raw (.lst xs) []))) : σ[i]? = some (some (.ref dp)) ∧ H dp = some (.lst xs) := by
  obtain ⟨h1, _, o, h3, h4, _, _⟩ := R.sl i _ h
  subst h4
  exact ⟨h1, h3⟩
theorem et_raw {k : Int} (R : Rel K H0 Hk H σ Γ) (h : Γ[i]? = some (Sl.w dp (.raw (.lst xs) []))) (hx : atI xs k = some (.int n)) : ET K (tOp (rIxL K) (tVar i) (tC (.int k))) σ H (.int n) := fun H1 e Q q => by
  obtain ⟨h1, h2⟩ := raw_at (R.same e) h
  exact ⟨.ref dp, h1, dp, xs, k, .int n, rfl, rfl, SqL.of h2, hx, q _ H1 (.refl _) (.int n)⟩
theorem e1_cells (R : Rel K H0 Hk H σ Γ) (h : Γ[i]? = some (drS dp cp a b c)) (hc : H0 cp = some (.lst (cells.map V.int))) : E1 K (tOp (rIxL K) (tVar i) (tC (.int 0))) σ H (.l (cells.map .int)) := fun H1 e Q q => by
  obtain ⟨h1, h2⟩ := raw_at (R.same e) h
  exact ⟨.ref dp, h1, dp, _, 0, .ref cp, rfl, rfl, SqL.of h2, rfl, q _ H1 (.refl _) ⟨cp, _, rfl, .inl (.inl ((R.same e).base _ _ hc)), TdAll.of_ints cells⟩⟩
/-- d[k] = e, a number -/
theorem s_rawset {k : Int} {j : Nat} (R : Rel K H0 Hk H σ Γ) (h : Γ[i]? = some (Sl.w dp (.raw (.lst xs) []))) (he : ET K te σ H (.int n)) (hj : ixN xs.length k = some j) (q : ∀ H', Rel K H0 Hk H' σ (Γ.set i (Sl.w dp (.raw (.lst (xs.set j (.int n))) []))) → D.nx σ H') : tAsg te (gSub (tVar i) (tC (.int k)) rSetL) D σ H :=
  he H (.refl _) _ fun v H2 e2 t2 => by
    obtain rfl := t2.i
    have R2 := R.same e2
    obtain ⟨h1, h2⟩ := raw_at R2 h
    exact ⟨.ref dp, h1, dp, xs, k, j, rfl, rfl, h2, hj, q _ (R2.mut h ⟨rfl, (fun ys z => by cases z), fun t ht => by cases ht⟩)⟩
theorem et_int1 (ha : ET K ta σ H (.int n)) : ET K (tCB (fun xs H Q => (∃ i : Int, xs = [.int i] ∧ Q (.int i) H) ∨ ∃ k : Bool, xs = [.bl k] ∧ Q (.int (if k then 1 else 0)) H) (tCons ta tNil)) σ H (.int n) := fun H1 e Q k =>
  ha H1 e _ fun v H2 e2 h2 => .inl ⟨n, by rw [h2.i], k _ H2 e2 (.int _)⟩
end
section
variable {P : Program} {w : World} {K : PySem.W.Frag} {mg : Str → Option Value} {base : Heap}
/-- _law_take(draw, many) -/
def spLk : Sp := fun vs H Q _ => ∃ dp m cp cells a b c, vs = [.ref dp, .int m] ∧ Dr H dp cp cells a b c ∧ 0 < m ∧ m ≤ 1000 ∧ ∀ (r : Int) H' a' b' c', 0 ≤ r → r < m → Same (off [dp] H) H' → Dr H' dp cp cells a' b' c' → Q (.int r) H'
abbrev Nlaw_take : List Str := ["_law_draw_here", "_law_many", "_law_found"]
theorem sc_law_take : FnScope Nlaw_take ["_law_draw_here", "_law_many"] (defScope sQlaw_take) := ⟨rfl, rfl, rfl, by decide +kernel, rfl, by decide +kernel, by decide +kernel⟩
theorem cal_law_take (T : Tx K mg base) : Cal P w K mg base 1 "_law_take" spLk [] := by
  have sc := sc_law_take
  refine cal_of T 65 50 rfl rfl sc (fun _ _ _ _ _ _ us hl => match us, hl with | [_, _], _ => rfl) (fun vs H Q E h => ?_) fun cdv A outer s H vs Q E hr h => ?_
  · obtain ⟨_, _, _, _, _, _, _, rfl, _⟩ := h; rfl
  refine ⟨_, (pss_cons (ps_if (pt_cmpR op_eq (pe_ix ix_list (pv 0) pe_int (fun _ _ => rfl)) pe_int (nomark _))
      (pss_cons (ps_asg (pe_op op_add (pe_ix ix_list (pv 0) pe_int (fun _ _ => rfl)) pe_int) (pg_sub (pv 0) pe_int set_list))
      (pss_cons (ps_if (pt_cmpR op_lt (pe_ix ix_list (pv 0) pe_int (fun _ _ => rfl)) (pe_callB call_len_seq (by rfl) T.f_len (by decide +kernel) (pa_cons (pe_ix ix_list (pv 0) pe_int (fun _ _ => rfl)) pa_nil)) (nomark _))
        (pss_one (ps_asg (pe_ix ix_list (pe_ix ix_list (pv 0) pe_int (fun _ _ => rfl)) (pe_ix ix_list (pv 0) pe_int (fun _ _ => rfl)) (fun _ _ => rfl)) (pg_sub (pv 0) pe_int set_list)))
        pss_nil)
      (pss_one (ps_if (pt_cmpR op_eq (pe_ix ix_list (pv 0) pe_int (fun _ _ => rfl)) pe_int (nomark _))
        (pss_cons (ps_asg (pe_op op_mod (pe_callTy call_int1 (by rfl) T.f_int (by decide +kernel) (pa_cons (pe_op op_add (pe_op op_mul (pe_ix ix_list (pv 0) pe_int (fun _ _ => rfl)) pe_int) pe_int) pa_nil)) pe_int) (pg_sub (pv 0) pe_int set_list))
        (pss_one (ps_asg (pe_ix ix_list (pv 0) pe_int (fun _ _ => rfl)) (pg_sub (pv 0) pe_int set_list))))
        pss_nil))))
      pss_nil)
    (pss_cons (ps_set (i := 2) sc.nd rfl (by first | exact Or.inl rfl | exact Or.inr rfl) (pe_op op_mod (pe_callTy call_int1 (by rfl) T.f_int (by decide +kernel) (pa_cons (pe_ix ix_list (pv 0) pe_int (fun _ _ => rfl)) pa_nil)) (pv 1)))
    (pss_cons (ps_asg (pe_op op_fdiv (pe_ix ix_list (pv 0) pe_int (fun _ _ => rfl)) (pv 1)) (pg_sub (pv 0) pe_int set_list))
    (pss_one (ps_ret (pv 2)))))), ?_⟩
  obtain ⟨dp, m, cp, cells, a, b, c, rfl, hd, hm, hm2, k⟩ := h
  have R := rel_off [dp] (K := K) (H := H) (N := Nlaw_take) (vs := [.ref dp, .int m]) (as := [.v (.ref dp), .t (.int m)]) (.cons rfl (.cons (.int _) .nil)) (by simp) (by simp)
  have R0 : Rel K (off [dp] H) H H (start Nlaw_take [.ref dp, .int m]) [drS dp cp a b c, .t (.int m), .any] := (R.own1 (i := 0) (ct := .raw (.lst (drL cp a b c)) []) rfl (off_in (by simp)) hd.d ⟨rfl, (fun ys z => by cases z), fun t ht => by cases ht⟩ (fun j q c' z => by rcases j with _ | _ | _ | j <;> simp [slots, slOf] at z)).eq rfl
  have hc0 : off [dp] H cp = some (.lst (cells.map V.int)) := by
    rw [off_out (by simpa using hd.ne.symm)]
    exact hd.c
  have hlo := hd.lo
  have hlen := hd.len
  refine sq (s_ifM (fun σ' H' => ∃ a b c, Rel K (off [dp] H) H H' σ' [drS dp cp a b c, .t (.int m), .any] ∧ -1 ≤ a) (eb_t (et_eqI (et_raw R0 rfl rfl) et_int)) (fun σ1 H1 ⟨a1, b1, c1, R1, l1⟩ => ?_) (fun hb H1 e1 k1 => ?_) fun hb H1 e1 k1 => k1 _ _ ⟨a, b, c, R0.same e1, hlo⟩)
  · try unfold tNext
    try dsimp only
    refine sq (s_set R1 (et_iC (C := fun _ j => 0 < j) (g := (· % ·)) (et_int1 (et_raw R1 rfl rfl)) (et_v R1 rfl) hm) fun σ2 H2 e2 R2 => ?_)
    try unfold tNext
    try dsimp only
    refine sq (s_rawset (n := b1 / m) R2 rfl (et_iC (C := CDiv) (g := (· / ·)) (et_raw R2 rfl rfl) (et_v R2 rfl) ⟨hm, by omega⟩) rfl fun H3 R3 => ?_)
    exact s_ret (et_v R3 rfl) fun v H4 e4 t4 => by
      rw [t4.i]
      exact k _ H4 a1 (b1 / m) c1 (Int.emod_nonneg _ (by omega)) (Int.emod_lt_of_pos _ hm) (R3.base.trans e4) ⟨(raw_at (i := 0) (R3.same e4) rfl).2, (R3.base.trans e4) _ _ hc0, hd.ne, l1, hlen⟩
  · have R1 := R0.same e1
    refine sq (s_rawset (n := a + 1) R1 rfl (et_i (et_raw R1 rfl rfl) et_int) rfl fun H2 R2 => ?_)
    have R2' : Rel K (off [dp] H) H H2 (start Nlaw_take [.ref dp, .int m]) [drS dp cp (a + 1) b c, .t (.int m), .any] := R2.eq rfl
    try unfold tNext
    try dsimp only
    refine sq (s_ifM (fun σ' H' => ∃ b, Rel K (off [dp] H) H H' σ' [drS dp cp (a + 1) b c, .t (.int m), .any]) (eb_t (et_ib (et_raw R2' rfl rfl) (et_lenL (e1_cells R2' rfl hc0)))) (fun σ3 H3 ⟨b3, R3⟩ => ?_) (fun hb3 H3 e3 k3 => ?_) fun hb3 H3 e3 k3 => k3 _ _ ⟨b, R2'.same e3⟩)
    · try unfold tNext
      try dsimp only
      refine s_if (eb_t (et_eqI (et_raw R3 rfl rfl) et_int)) (fun hb4 H4 e4 => ?_) fun hb4 H4 e4 => k1 _ _ ⟨a + 1, b3, c, R3.same e4, by omega⟩
      have R4 := R3.same e4
      refine sq (s_rawset (n := (c * 48271 + 11) % 2147483647) R4 rfl (et_iC (C := fun _ j => 0 < j) (g := (· % ·)) (et_int1 (et_i (et_iC (C := CMul) (g := (· * ·)) (et_raw R4 rfl rfl) et_int (.inr ⟨by decide, by decide⟩)) et_int)) et_int (by decide)) rfl fun H5 R5 => ?_)
      try unfold tNext
      try dsimp only
      refine s_rawset (n := (c * 48271 + 11) % 2147483647) R5 rfl (et_raw R5 rfl rfl) rfl fun H6 R6 => k1 _ _ ⟨a + 1, _, _, R6.eq rfl, by omega⟩
    · have hlt : a + 1 < (cells.length : Int) := by
        have := of_decide_eq_true hb3
        simpa using this
      have R3 := R2'.same e3
      obtain ⟨j, hj⟩ : ∃ j : Nat, a + 1 = (j : Int) := ⟨(a + 1).toNat, by omega⟩
      have hjl : j < cells.length := by omega
      refine s_rawset (n := cells[j]) R3 rfl (et_ixL (e1_cells R3 rfl hc0) (et_raw R3 rfl rfl) (d := .int cells[j]) (by rw [hj]; exact CW.atI_nat (by rw [List.getElem?_map, List.getElem?_eq_getElem hjl]; rfl))) rfl fun H6 R6 => k3 _ _ ⟨_, R6.eq rfl⟩
def stepS (s x : Int) : Int := (s * 48271 + (if x < 0 then -x else x) % 65521 + 1) % 2147483647
/-- _law_draw(script) -/
def spLd (K : PySem.W.Frag) : Sp := fun vs H Q _ => ∃ v ns, vs = [v] ∧ ArOk K H v (.l (List.map PyData.int ns)) ∧ ns.length ≤ 90000 ∧ ∀ dp H' cp cells a b c, H dp = none → H cp = none → Same H H' → Dr H' dp cp cells a b c → Q (.ref dp) H'
abbrev Nlaw_draw : List Str := ["_law_script", "_law_seed", "_law_cell"]
theorem sc_law_draw : FnScope Nlaw_draw ["_law_script"] (defScope sQlaw_draw) := ⟨rfl, rfl, rfl, by decide +kernel, rfl, by decide +kernel, by decide +kernel⟩
theorem cal_law_draw (T : Tx K mg base) : Cal P w K mg base 1 "_law_draw" (spLd K) [] := by
  have sc := sc_law_draw
  refine cal_of T 64 49 rfl rfl sc (fun _ _ _ _ _ _ us hl => match us, hl with | [_], _ => rfl) (fun vs H Q E h => ?_) fun cdv A outer s H vs Q E hr h => ?_
  · obtain ⟨_, _, rfl, _⟩ := h; rfl
  refine ⟨_, (pss_cons (ps_set (i := 1) sc.nd rfl (by first | exact Or.inl rfl | exact Or.inr rfl) pe_int)
    (pss_cons (ps_for PassesOwn.never rfl (pi_list (pv 0)) (pg_name (i := 2) sc.nd rfl (by first | exact Or.inl rfl | exact Or.inr rfl))
      (pss_one (ps_set (i := 1) sc.nd rfl (by first | exact Or.inl rfl | exact Or.inr rfl) (pe_op op_mod (pe_callTy call_int1 (by rfl) T.f_int (by decide +kernel) (pa_cons (pe_op op_add (pe_op op_add (pe_op op_mul (pv 1) pe_int) (pe_op op_mod (pe_callB call_abs (by rfl) T.f_abs (by decide +kernel) (pa_cons (pe_callTy call_int1 (by rfl) T.f_int (by decide +kernel) (pa_cons (pv 2) pa_nil)) pa_nil)) pe_int)) pe_int) pa_nil)) pe_int))))
    (pss_one (ps_ret (pe_lst (pa_cons (pe_lc (own := [("_law_cell", 2)]) rfl sc.nd (pi_list (pv 0)) (blkOk_by (own := [("_law_cell", 2)]) (N := Nlaw_draw) (sc := defScope sQlaw_draw) (by decide +kernel)) (fun _ _ _ _ _ => (pg_name (i := 2) sc.nd rfl (Or.inl rfl))) (fun _ _ _ _ _ => pts_nil) (fun _ _ _ _ _ => (pe_callB call_abs (by rfl) T.f_abs (by decide +kernel) (pa_cons (pe_callTy call_int1 (by rfl) T.f_int (by decide +kernel) (pa_cons (pv 2) pa_nil)) pa_nil)))) (pa_cons (pe_un un_neg pe_int) (pa_cons pe_int (pa_cons (pv 1) pa_nil))))))))), ?_⟩
  obtain ⟨v, ns, rfl, hv, hl, k⟩ := h
  have R := rel_start (K := K) (H := H) (N := Nlaw_draw) (vs := [v]) (as := [.l (ns.map .int)]) (.cons hv .nil) (by simp)
  refine sq (s_set R et_int fun σ1 H1 e1 R1 => ?_)
  try unfold tNext
  try dsimp only
  refine sq (s_forR (i := 0) (xs := ns) (enc := .int) R1 rfl (fun n => [.r (ns.map .int), .t (.int ((ns.take n).foldl stepS 7)), .any]) (fun _ _ => True) rfl trivial (fun Hm n x v σ2 H2 hx R2 _ back tv => ?_) fun σ2 H2 R2 _ => ?_)
  · refine g_name R2 tv fun σ3 R3 => ?_
    refine s_set R3 (et_iC (C := fun _ j => 0 < j) (g := (· % ·)) (et_int1 (et_i (g := (· + ·)) (et_i (g := (· + ·)) (et_iC (C := CMul) (g := (· * ·)) (et_v R3 rfl) et_int (.inr ⟨by decide, by decide⟩)) (et_iC (C := fun _ j => 0 < j) (g := (· % ·)) (et_abs (et_int1 (et_v R3 rfl))) et_int (by decide))) et_int)) et_int (by decide)) fun σ4 H4 e4 R4 => ⟨(R4.forget 2).eq ?_, trivial⟩
    rw [List.take_add_one, hx, Option.toList_some, List.foldl_append]
    rfl
  · try unfold tNext
    try dsimp only
    unfold tRet tLst tCons
    refine (el_mapL (i := 2) (xs := ns) (enc := .int) (f := fun x => .int (if x < 0 then -x else x)) R2 (e1_r (i := 0) R2 rfl) (Nat.le_trans hl (by decide)) fun n x hx σ3 H3 R3 e3 => et_abs (et_int1 (et_v R3 (i := 2) rfl))) H2 (.refl _) _ fun p vs H3 hp e3 hh tt => ?_
    obtain ⟨u, u1, u2⟩ := (R2.same e3).sl 1 _ rfl
    obtain rfl := u2.i
    refine ⟨1, rfl, .int _, u1, sz1000 (by simp), fun dp hdp => ?_⟩
    have hh' : H3 p = some (.lst ((ns.map fun x => if x < 0 then -x else x).map V.int)) := by
      have tt' : TdAll K H3 vs ((ns.map fun x => if x < 0 then -x else x).map .int) := by rw [List.map_map]; exact tt
      rw [hh, TdAll.ints tt']
    have e4 := same_upd (o := .lst (drL p (-1) 0 ((ns.take ns.length).foldl stepS 7))) hdp
    exact k dp _ p _ (-1) 0 _ ((R2.base.trans e3).free hdp) (R2.base.free hp) ((R2.base.trans e3).trans e4) ⟨upd_same, e4 _ _ hh', (fun e => by subst e; rw [hdp] at hh; cases hh), by decide, by rw [List.length_map]; exact hl⟩
end
end CW

set_option maxRecDepth 100000
set_option maxHeartbeats 4000000
/-! _law_sorted. -/
namespace CW
open PySem PySem.Spec PyProof.Rows L2
open C8 (Cal Met Mak pe_c pe_mk pe_mt pe_mt0)
theorem k_pi_tup {X : Cx} {e tg : Expr} {te : TE} (K : PySem.W.Frag) (h : X.K = K) (he : PE X e te) : PI X tg e (iTup K te) := h ▸ pi_tup he
def keyRow (c : Cl) : PyData := .tuple [.list (c.map litKey), dC c]
theorem alike_row (a b : Cl) : PySem.W.alike (keyRow a) (keyRow b) = true := by
  unfold keyRow
  rw [PySem.W.alike, PySem.W.alikeAll, PySem.W.alikeAll, PySem.W.alikeAll, PySem.W.alike, alike_litKeys]
  show (true && (PySem.W.alike (.tuple (a.map .int)) (.tuple (b.map .int)) && true)) = true
  rw [PySem.W.alike, PySem.W.alike_ints]
  rfl
theorem depth_row (c : Cl) : (keyRow c).depth ≤ 8 := by
  have h1 : PyData.depthAll (c.map litKey) ≤ 1 := by
    induction c with
    | nil => rw [List.map_nil, PyData.depthAll]; omega
    | cons l c ih =>
      rw [List.map_cons, PyData.depthAll]
      have : (litKey l).depth ≤ 1 := by
        unfold litKey
        split <;> simp [PyData.depth, PyData.depthAll]
      omega
  have h2 : (dC c).depth ≤ 1 := (shp_dC c).2
  unfold keyRow
  rw [PyData.depth, PyData.depthAll, PyData.depthAll, PyData.depthAll, PyData.depth]
  omega
theorem off_self {H : Hp} {D : Addr} {o : HO} : off [D] (upd H D o) = off [D] H := by
  funext a
  by_cases q : a = D
  · subst q; rw [off_in (by simp), off_in (by simp)]
  · rw [off_out (by simpa using q), off_out (by simpa using q), upd_ne q]
theorem off_mono {F : List Addr} {H H' : Hp} (e : Same H H') : Same (off F H) (off F H') := fun a o h => by
  by_cases q : a ∈ F
  · rw [off_in q] at h; cases h
  · rw [off_out q] at h ⊢
    exact e a o h
theorem keep_to_off {H : Hp} {D : Addr} (h : ∀ xs, H D ≠ some (.tup xs)) : Keep H (off [D] H) := fun a xs e => by
  rw [off_out (by simp; exact fun q => h xs (by rw [← q]; exact e))]
  exact e
/-- a row with its keys -/
def Kr (K : PySem.W.Frag) (H : Hp) (v : V) (c : Cl) : Prop := ∃ t l vr ks, v = .ref t ∧ TuA K H t [.ref l, vr] ∧ H l = some (.lst ks) ∧ TdAll K H ks (c.map litKey) ∧ Td K H vr (dC c)
theorem Kr.same {K : PySem.W.Frag} {H H' : Hp} {v : V} {c : Cl} (e : Same H H') (h : Kr K H v c) : Kr K H' v c := by
  obtain ⟨t, l, vr, ks, h1, h2, h3, h4, h5⟩ := h
  exact ⟨t, l, vr, ks, h1, h2.keep (keep_same e), e _ _ h3, h4.same e, h5.same e⟩
theorem Kr.dp {K : PySem.W.Frag} {H : Hp} {v : V} {c : Cl} (h : Kr K H v c) : Dp K H v (keyRow c) := by
  obtain ⟨t, l, vr, ks, rfl, h2, h3, h4, h5⟩ := h
  exact .tup h2.sq (.cons (.lst (SqL.of h3) (TdAll.dp _ _ h4)) (.cons (Td.dp _ _ h5) .nil))
def P_law_sorted (as : List Ar) (ds : List PyData) : Prop := ∃ rows : Rs, as = [.l (rows.map dC)] ∧ rows.length ≤ 900 ∧ (∀ c ∈ rows, c.length ≤ 900) ∧ ds = (rows.mergeSort (PySem.W.dataLe false keyRow)).map dC
section
variable {P : Program} {w : World} {K : PySem.W.Frag} {mg : Str → Option Value} {base : Heap}
abbrev Nlaw_sorted : List Str := ["_law_rows", "_law_keyed", "_law_literal", "_law_row", "_law_pair"]
theorem sc_law_sorted : FnScope Nlaw_sorted ["_law_rows"] (defScope sQlaw_sorted) := ⟨rfl, rfl, rfl, by decide +kernel, rfl, by decide +kernel, by decide +kernel⟩
theorem cal_law_sorted (T : Tx K mg base) : Cal P w K mg base 2 "_law_sorted" (spL K P_law_sorted) [] := by
  have sc := sc_law_sorted
  refine cal_l T 67 52 rfl rfl sc (fun _ _ _ _ _ _ us hl => match us, hl with | [_], _ => rfl) (fun as d h => ?_) (by decide) fun cdv A outer s H Q E hr => ?_
  · (first | (obtain ⟨_, rfl, _⟩ := h; rfl) | (obtain ⟨_, _, rfl, _⟩ := h; rfl) | (obtain ⟨_, _, _, rfl, _⟩ := h; rfl) | (obtain ⟨_, _, _, _, rfl, _⟩ := h; rfl) | (obtain ⟨_, _, _, _, _, rfl, _⟩ := h; rfl) | (obtain ⟨_, _, _, _, _, _, rfl, _⟩ := h; rfl) | (obtain ⟨_, _, _, _, _, _, _, rfl, _⟩ := h; rfl) | (obtain ⟨_, _, _, _, _, _, _, _, rfl, _⟩ := h; rfl))
  refine ⟨_, (pss_cons (ps_set (i := 1) sc.nd rfl (by first | exact Or.inl rfl | exact Or.inr rfl) (pe_callB (cr_sortD (u65 hr)) (by rfl) T.f_sorted (by decide +kernel) (pa_cons (pe_lc (own := [("_law_row", 3)]) rfl sc.nd (pi_list (pv 0)) (blkOk_by (own := [("_law_row", 3)]) (N := Nlaw_sorted) (sc := defScope sQlaw_sorted) (by decide +kernel)) (fun _ _ _ _ _ => (pg_name (i := 3) sc.nd rfl (Or.inl rfl))) (fun _ _ _ _ _ => pts_nil) (fun _ _ _ _ _ => (pe_tup (pa_cons (pe_lc (own := [("_law_literal", 2)]) rfl sc.nd (k_pi_tup K rfl (pv 3)) (blkOk_by (own := [("_law_literal", 2)]) (N := Nlaw_sorted) (sc := { kind := .function, names := [(".0", .local), ("_law_row", .local)], isGenerator := false, isCoroutine := false }) (by decide +kernel)) (fun _ _ _ _ _ => (pg_name (i := 2) sc.nd rfl (Or.inl rfl))) (fun _ _ _ _ _ => pts_nil) (fun _ _ _ _ _ => (pe_c (cal_law_key T) hr (by decide) rfl (pa_cons (pv 2) pa_nil)))) (pa_cons (pv 3) pa_nil))))) pa_nil)))
    (pss_one (ps_ret (pe_lc (own := [("_law_pair", 4)]) rfl sc.nd (pi_list (pv 1)) (blkOk_by (own := [("_law_pair", 4)]) (N := Nlaw_sorted) (sc := defScope sQlaw_sorted) (by decide +kernel)) (fun _ _ _ _ _ => (pg_name (i := 4) sc.nd rfl (Or.inl rfl))) (fun _ _ _ _ _ => pts_nil) (fun _ _ _ _ _ => (pe_ix (k_ix_tup K rfl) (pv 4) pe_int (fun _ _ => rfl))))))), fun as d h k σ R => ?_⟩
  obtain ⟨rows, rfl, hl, hc, rfl⟩ := h
  obtain ⟨a, vs, s0, hsq, htd⟩ := R.sl 0 _ rfl
  have R' : Rel K H H H σ [.r (rows.map dC), .any, .any, .any, .any] := R.eq rfl
  clear R
  try unfold tNext
  refine sq ⟨.ref a, s0, a, rfl, ⟨vs, Same.seq R'.base hsq⟩, fun D hD => ?_⟩
  refine lc_list (K := K) (a := a) (xs := vs) (fun n H' => Same H H' ∧ ∃ acc, H' D = some (.lst acc) ∧ Paired (Kr K (off [D] H')) acc (rows.take n)) ⟨same_upd hD, [], upd_same, .nil⟩ (fun n H' _ h => Same.seq h.1 hsq) (fun n v H' hn ⟨e3, acc, hacc, tacc⟩ => ?_) fun H' ⟨e3, acc, hacc, tacc⟩ => ?_
  · obtain ⟨d, hd0, td⟩ := htd.get' hn
    obtain ⟨c, hcn, rfl⟩ := map_get hd0
    have R2 : Rel K H H H' (σ.set 3 (some v)) [.r (rows.map dC), .any, .any, .t (dC c), .any] := ((R'.same e3).set_t 3 (td.same e3)).eq rfl
    dsimp only [List.map]
    show wipe ((wipe σ [3]).set 3 (some v)) [3] = wipe σ [3] ∧ _
    rw [wipe1]
    refine ⟨wipe2 _ _ _, ?_⟩
    unfold tYes
    refine iteT ?_
    have hcl := hc c (List.mem_of_getElem? hcn)
    unfold tTup tCons
    refine (el_mapT (i := 2) (xs := c) (enc := .int) (f := litKey) R2 (et_v R2 (i := 3) rfl) (Nat.le_trans hcl (by decide)) fun m l hm σ4 H4 R4 e4 => et_call (P := P_law_key) (ea_t (d := .int l) (et_v R4 (i := 2) rfl) ea_nil) ⟨l, rfl, rfl⟩) H' (.refl _) _ fun ℓ ks H4 hℓ e4 hh tt => ?_
    obtain ⟨v3, s3, t3⟩ := (R2.same e4).sl 3 _ rfl
    refine ⟨v3, s3, sz1000 (by simp), fun t ht => ⟨acc, (same_upd ht) _ _ (e4 _ _ hacc), ?_, ?_⟩⟩
    · rw [Paired.length tacc]
      refine Nat.lt_of_le_of_lt ?_ (show 100000 < sizeLine by decide)
      rw [List.length_take]
      omega
    · have e5 := e4.trans (same_upd (o := .tup [.ref ℓ, v3]) ht)
      have hD5 := e5 _ _ hacc
      have ntD : ∀ xs, upd H4 t (.tup [.ref ℓ, v3]) D ≠ some (.tup xs) := fun xs e => by rw [hD5] at e; cases e
      have kO := keep_to_off ntD
      have tD : t ≠ D := fun e => by subst e; rw [e4 _ _ hacc] at ht; cases ht
      have lD : ℓ ≠ D := fun e => by subst e; rw [hacc] at hℓ; cases hℓ
      refine ⟨same_mut (e3.trans e5) hD, acc ++ [.ref t], upd_same, ?_⟩
      rw [off_self, List.take_add_one, hcn, Option.toList_some]
      refine paired_snoc ⟨t, ℓ, v3, ks, rfl, .inl (by rw [off_out (by simpa using tD)]; exact upd_same), ?_, (tt.same (same_upd ht)).k kO, (t3.same (same_upd ht)).k kO⟩ (paired_imp (fun _ _ q => q.same (off_mono e5)) tacc)
      rw [off_out (by simpa using lD)]
      exact (same_upd ht) _ _ hh
  · have hvl : vs.length = rows.length := by rw [htd.length, List.length_map]
    rw [hvl, List.take_length] at tacc
    refine ⟨D, acc, Cl, keyRow, rows, fun v c => Kr K H' v c, rfl, SqL.of hacc, paired_imp (fun v c q => ⟨q.same off_same, (q.same off_same).dp⟩) tacc, PySem.W.AllAlike.of alike_row, .inl fun d hd => ?_, Nat.le_trans hl (by decide), fun c _ => depth_row c, fun ys p hys hp => ?_⟩
    · obtain ⟨c, _, rfl⟩ := List.mem_map.mp hd
      exact ⟨_, _, rfl⟩
    have e4 := same_upd (o := .lst ys) hp
    have R3 := ((R'.same e3).same e4).set_v 1 (.ref p)
    have hsl : (rows.mergeSort (PySem.W.dataLe false keyRow)).length ≤ 100000 := by
      rw [(List.mergeSort_perm _ _).length_eq]
      omega
    have s1 : (σ.set 1 (some (.ref p)))[1]? = some (some (.ref p)) := R3.sl 1 _ rfl
    have p1 : upd H' p (.lst ys) p = some (.lst ys) := upd_same
    have y1 := paired_imp (fun v c (q : Kr K H' v c) => q.same e4) hys
    try unfold tNext
    try dsimp only
    refine s_retL R3 (el_mapV (i := 4) (zs := rows.mergeSort (PySem.W.dataLe false keyRow)) (f := dC) (Pz := fun H v c => Kr K H v c) R3 (fun H1 e1 Q' k' => ?_) hsl fun n z v H1 hz hv σ5 H5 R5 e5 => ?_) k
    · exact ⟨.ref p, s1, k' p ys H1 (.refl _) (e1 _ _ p1) (paired_imp (fun v c q => Kr.same e1 q) y1)⟩
    · intro H6 e6 Q6 k6
      obtain ⟨t, l, vr, ks, rfl, g2, g3, g4, g5⟩ := hv.same (e5.trans e6)
      have s4 : σ5[4]? = some (some (.ref t)) := R5.sl 4 _ rfl
      exact ⟨.ref t, s4, t, [.ref l, vr], 1, vr, rfl, rfl, g2.sq, rfl, k6 vr H6 (.refl _) g5⟩
end
end CW

set_option maxRecDepth 100000
set_option maxHeartbeats 4000000
/-! _law_longer, _law_fillings, _law_keeps, _law_models. -/
namespace CW
open PySem PySem.Spec PyProof.Rows L2
open C8 (Cal Met Mak pe_c pe_mk pe_mt pe_mt0)
def longW (rows : Rs) (v : Int) : Rs := rows.flatMap fun r => [r ++ [-v], r ++ [v]]
def fillsW (vs : List Int) : Rs := vs.foldl longW [[]]
def keepsB (R : Rs) (f : Cl) : Bool := R.all fun c => c.any fun l => f.contains l
def modelsL (S Hd : List Int) (R0 : Rs) : Rs := (fillsW S).filter fun f => (fillsW Hd).any fun r => keepsB R0 (f ++ r)
theorem longW_len (rows : Rs) (v : Int) : (longW rows v).length = 2 * rows.length := by
  unfold longW
  induction rows with
  | nil => rfl
  | cons r rows ih => rw [List.flatMap_cons, List.length_append, ih]; simp; omega
theorem longW_mem {rows : Rs} {v : Int} {n : Nat} (h : ∀ r ∈ rows, r.length = n) : ∀ r ∈ longW rows v, r.length = n + 1 := fun r hr => by
  obtain ⟨q, hq, hr⟩ := List.mem_flatMap.mp hr
  have := h q hq
  simp only [List.mem_cons, List.not_mem_nil, or_false] at hr
  rcases hr with rfl | rfl <;> simp [this]
theorem fillsW_ok : ∀ (vs : List Int) (rows : Rs) (n : Nat), (∀ r ∈ rows, r.length = n) → (vs.foldl longW rows).length = 2 ^ vs.length * rows.length ∧ ∀ r ∈ vs.foldl longW rows, r.length = n + vs.length
  | [], rows, n, h => ⟨by simp, by simpa using h⟩
  | v :: vs, rows, n, h => by
    obtain ⟨h1, h2⟩ := fillsW_ok vs (longW rows v) (n + 1) (longW_mem h)
    rw [List.foldl_cons]
    refine ⟨?_, fun r hr => ?_⟩
    · rw [h1, longW_len, List.length_cons, Nat.pow_succ, ← Nat.mul_assoc]
    · have := h2 r hr
      simp only [List.length_cons]
      omega
theorem fillsW_len (vs : List Int) : (fillsW vs).length = 2 ^ vs.length := by
  have := (fillsW_ok vs [[]] 0 (by simp)).1
  unfold fillsW
  simpa using this
theorem fillsW_mem {vs : List Int} {r : Cl} (h : r ∈ fillsW vs) : r.length = vs.length := by
  have := (fillsW_ok vs [[]] 0 (by simp)).2 r h
  omega
def P_law_longer (as : List Ar) (ds : List PyData) : Prop := ∃ (rows : Rs) (v : Int), as = [.l (rows.map dC), .t (.int v)] ∧ rows.length ≤ 10000 ∧ (∀ r ∈ rows, r.length ≤ 900) ∧ ds = (longW rows v).map dC
def P_law_fillings (as : List Ar) (ds : List PyData) : Prop := ∃ vs : List Int, as = [.t (dC vs)] ∧ vs.length ≤ 9 ∧ ds = (fillsW vs).map dC
def P_law_keeps (as : List Ar) (d : PyData) : Prop := ∃ (R : Rs) (f : Cl), as = [.t (dR R), .t (dC f)] ∧ Sm R ∧ d = .bool (keepsB R f)
def P_law_models (as : List Ar) (ds : List PyData) : Prop := ∃ (S Hd : List Int) (R0 : Rs), as = [.t (dF S Hd R0)] ∧ Sm R0 ∧ S.length ≤ 9 ∧ Hd.length ≤ 9 ∧ ds = (modelsL S Hd R0).map dC
section
variable {P : Program} {w : World} {K : PySem.W.Frag} {mg : Str → Option Value} {base : Heap}
theorem et_snoc {H0 Hk H : Hp} {σ : L2.St} {Γ : List Sl} {te : TE} {i : Nat} {r : Cl} {l : Int} (R : Rel K H0 Hk H σ Γ) (h : Γ[i]? = some (.t (dC r))) (hl : r.length ≤ 900) (he : ET K te σ H (.int l)) : ET K (tOp (rCatA K) (tVar i) (tTup (tCons te tNil))) σ H (dC (r ++ [l])) :=
  ET.eq (et_catT (ds := r.map .int) (es := [.int l]) (et_v R h) (et_tup (ds := [_]) (ea_t he ea_nil)) (by simp; omega)) (by unfold dC; rw [List.map_append]; rfl)
theorem et_eqLL {H : Hp} {σ : L2.St} {ta tb : TE} {ds es : List PyData} (ha : EL K ta σ H ds) (hb : EL K tb σ H es) (h1 : SeqAt.shaped (.list ds) = true) (h2 : SeqAt.shaped (.list es) = true) : ET K (tOp (rEqD K) ta tb) σ H (.bool (PyData.eqv (.list ds) (.list es))) := fun H1 q Q k =>
  ha H1 q _ fun p vs H2 hp e2 hh tt => hb H2 (q.trans e2) _ fun p' us H3 hp' e3 hh' tt' => ⟨.list ds, .list es, dpl (SqL.of (e3 _ _ hh)) (tt.same e3), dpl (SqL.of hh') tt', h1, h2, k _ H3 (e2.trans e3) (.bl _)⟩
theorem eqv_ll (xs ys : List Int) : PyData.eqv (.list (xs.map .int)) (.list (ys.map .int)) = decide (xs = ys) := by
  rw [PyData.eqv]
  exact eqvAll_map eqv_int xs ys
theorem shp_li (xs : List Int) : Shp 1 (.list (xs.map .int)) := shp_lst (n := 0) fun d hd => by
  obtain ⟨i, _, rfl⟩ := List.mem_map.mp hd
  exact shp_int
/-- a stand of our own: what is ours now is left open -/
theorem Rel.stand {H0 Hk H : Hp} {σ : L2.St} {Γ : List Sl} (R : Rel K H0 Hk H σ Γ) (F : List Addr) (hF : ∀ (i : Nat) (a : Addr) (c : Ct), Γ[i]? = some (Sl.w a c) → a ∈ F) (nr : ∀ (i : Nat) (ds : List PyData), Γ[i]? ≠ some (.r ds)) : Rel K (off F H) H H σ Γ := by
  refine ⟨off_same, .refl H, R.len, fun i s hs => ?_, R.own⟩
  have z := R.sl i s hs
  cases s with
  | any => trivial
  | t d => exact z
  | v x => exact z
  | w a c => exact ⟨z.1, off_in (hF i a c hs), z.2.2⟩
  | r ds => exact absurd hs (nr i ds)
theorem Rel.unstand {H0 Hk H H' : Hp} {σ σ' : L2.St} {Γ Γ' : List Sl} {F : List Addr} (R : Rel K H0 Hk H σ Γ) (hF : ∀ a ∈ F, H0 a = none) (R' : Rel K (off F H) H H' σ' Γ') (nr : ∀ (i : Nat) (ds : List PyData), Γ'[i]? ≠ some (.r ds)) : Rel K H0 Hk H' σ' Γ' := by
  have e : Same H0 (off F H) := fun a o h => by
    rw [off_out fun q => by rw [hF a q] at h; cases h]
    exact R.base a o h
  refine ⟨e.trans R'.base, R.keep.trans R'.keep, R'.len, fun i s hs => ?_, R'.own⟩
  have z := R'.sl i s hs
  cases s with
  | any => trivial
  | t d => exact z
  | v x => exact z
  | w a c => exact ⟨z.1, e.free z.2.1, z.2.2⟩
  | r ds => exact absurd hs (nr i ds)
abbrev Nlaw_longer : List Str := ["_law_rows", "_law_variable", "_law_found", "_law_row"]
theorem sc_law_longer : FnScope Nlaw_longer ["_law_rows", "_law_variable"] (defScope sQlaw_longer) := ⟨rfl, rfl, rfl, by decide +kernel, rfl, by decide +kernel, by decide +kernel⟩
theorem cal_law_longer (T : Tx K mg base) : Cal P w K mg base 1 "_law_longer" (spL K P_law_longer) [] := by
  have sc := sc_law_longer
  refine cal_l T 71 56 rfl rfl sc (fun _ _ _ _ _ _ us hl => match us, hl with | [_, _], _ => rfl) (fun as d h => ?_) (by decide) fun cdv A outer s H Q E hr => ?_
  · (first | (obtain ⟨_, rfl, _⟩ := h; rfl) | (obtain ⟨_, _, rfl, _⟩ := h; rfl) | (obtain ⟨_, _, _, rfl, _⟩ := h; rfl) | (obtain ⟨_, _, _, _, rfl, _⟩ := h; rfl) | (obtain ⟨_, _, _, _, _, rfl, _⟩ := h; rfl) | (obtain ⟨_, _, _, _, _, _, rfl, _⟩ := h; rfl) | (obtain ⟨_, _, _, _, _, _, _, rfl, _⟩ := h; rfl) | (obtain ⟨_, _, _, _, _, _, _, _, rfl, _⟩ := h; rfl))
  refine ⟨_, (pss_cons (ps_set (i := 2) sc.nd rfl (by first | exact Or.inl rfl | exact Or.inr rfl) (pe_lst pa_nil))
    (pss_cons (ps_for PassesOwn.never rfl (pi_list (pv 0)) (pg_name (i := 3) sc.nd rfl (by first | exact Or.inl rfl | exact Or.inr rfl))
      (pss_cons (ps_expr (pe_bm PySem.F.plainAttrs_list PySem.F.slot_list_append PySem.F.type_list_append mt_append (pv 2) (pa_cons (pe_op op_catA (pv 3) (pe_tup (pa_cons (pe_un un_neg (pv 1)) pa_nil))) pa_nil)))
      (pss_one (ps_expr (pe_bm PySem.F.plainAttrs_list PySem.F.slot_list_append PySem.F.type_list_append mt_append (pv 2) (pa_cons (pe_op op_catA (pv 3) (pe_tup (pa_cons (pv 1) pa_nil))) pa_nil))))))
    (pss_one (ps_ret (pv 2))))), fun as d h k σ R => ?_⟩
  obtain ⟨rows, v, rfl, hl, hr2, rfl⟩ := h
  refine sq (s_setL R el_nil fun p σ1 H1 e1 R1 => ?_)
  try unfold tNext
  try dsimp only
  refine sq (s_forR (i := 0) (xs := rows) (enc := dC) R1 rfl (fun n => [.r (rows.map dC), .t (.int v), Sl.w p (.lst ((longW (rows.take n) v).map dC)), .any]) (fun _ _ => True) rfl trivial (fun Hm n x vv σ2 H2 hx R2 _ back tv => ?_) fun σ2 H2 R2 _ => ?_)
  · have hxl := hr2 x (List.mem_of_getElem? hx)
    have hn : n < rows.length := (List.getElem?_eq_some_iff.mp hx).1
    have hlt : ((longW (rows.take n) v).map dC).length ≤ 90000 := by
      rw [List.length_map, longW_len, List.length_take]
      omega
    refine g_name R2 tv fun σ3 R3 => ?_
    refine sq (s_append R3 rfl (et_snoc (i := 3) R3 rfl hxl (et_neg (et_v R3 rfl))) (by omega) fun H4 R4 => ?_)
    try unfold tNext
    try dsimp only
    refine s_append R4 rfl (et_snoc (i := 3) R4 rfl hxl (et_v R4 rfl)) (by rw [List.length_append]; simp at hlt ⊢; omega) fun H5 R5 => ⟨(R5.forget 3).eq ?_, trivial⟩
    rw [List.take_add_one, hx, Option.toList_some]
    unfold longW
    rw [List.flatMap_append, List.map_append]
    simp [slots, slOf]
  · rw [List.take_length] at R2
    exact s_retW R2 rfl k
abbrev Nlaw_fillings : List Str := ["_law_variables", "_law_rows", "_law_variable"]
theorem sc_law_fillings : FnScope Nlaw_fillings ["_law_variables"] (defScope sQlaw_fillings) := ⟨rfl, rfl, rfl, by decide +kernel, rfl, by decide +kernel, by decide +kernel⟩
theorem cal_law_fillings (T : Tx K mg base) : Cal P w K mg base 2 "_law_fillings" (spL K P_law_fillings) [] := by
  have sc := sc_law_fillings
  refine cal_l T 70 55 rfl rfl sc (fun _ _ _ _ _ _ us hl => match us, hl with | [_], _ => rfl) (fun as d h => ?_) (by decide) fun cdv A outer s H Q E hr => ?_
  · (first | (obtain ⟨_, rfl, _⟩ := h; rfl) | (obtain ⟨_, _, rfl, _⟩ := h; rfl) | (obtain ⟨_, _, _, rfl, _⟩ := h; rfl) | (obtain ⟨_, _, _, _, rfl, _⟩ := h; rfl) | (obtain ⟨_, _, _, _, _, rfl, _⟩ := h; rfl) | (obtain ⟨_, _, _, _, _, _, rfl, _⟩ := h; rfl) | (obtain ⟨_, _, _, _, _, _, _, rfl, _⟩ := h; rfl) | (obtain ⟨_, _, _, _, _, _, _, _, rfl, _⟩ := h; rfl))
  refine ⟨_, (pss_cons (ps_set (i := 1) sc.nd rfl (by first | exact Or.inl rfl | exact Or.inr rfl) (pe_lst (pa_cons (pe_tup pa_nil) pa_nil)))
    (pss_cons (ps_for PassesOwn.never rfl (pi_tup (pv 0)) (pg_name (i := 2) sc.nd rfl (by first | exact Or.inl rfl | exact Or.inr rfl))
      (pss_one (ps_set (i := 1) sc.nd rfl (by first | exact Or.inl rfl | exact Or.inr rfl) (pe_c (cal_law_longer T) hr (by decide) rfl (pa_cons (pv 1) (pa_cons (pv 2) pa_nil))))))
    (pss_one (ps_ret (pv 1))))), fun as d h k σ R => ?_⟩
  obtain ⟨vs, rfl, hl, rfl⟩ := h
  refine sq (s_setL R (el_lst (ds := [dC []]) (ea_t (et_tup (ds := []) ea_nil) ea_nil)) fun p σ1 H1 e1 R1 => ?_)
  try unfold tNext
  try dsimp only
  refine sq (s_forTG (xs := vs) (enc := .int) (et_v R1 rfl) fun H2 e2 => ⟨fun n σ' H' => ∃ p, Rel K H H2 H' σ' [.t (dC vs), Sl.w p (.lst (((vs.take n).foldl longW [[]]).map dC)), .any], ⟨p, (R1.same e2).rebase⟩, fun n σ' H' ⟨p, hw⟩ => hw.keep, fun n x v σ' H' hx ⟨p, hw⟩ tv => ?_, fun σ' H' ⟨p, hw⟩ => ?_⟩)
  · refine g_name hw tv fun σ3 R3 => ?_
    obtain ⟨q1, q2⟩ := fillsW_ok (vs.take n) [[]] 0 (by simp)
    have hn : (vs.take n).length ≤ 9 := by rw [List.length_take]; omega
    have hp : 2 ^ (vs.take n).length ≤ 2 ^ 9 := Nat.pow_le_pow_right (by decide) hn
    refine s_setL R3 (el_call (ea_cons (e1_w (ds := ((vs.take n).foldl longW [[]]).map dC) R3 rfl) (ea_t (et_v R3 rfl) ea_nil)) ⟨(vs.take n).foldl longW [[]], x, rfl, by rw [q1]; simp at hp ⊢; omega, fun r hr => by have := q2 r hr; omega, rfl⟩) fun p' σ4 H4 e4 R4 => ⟨p', (R4.forget 2).eq ?_⟩
    rw [List.take_add_one, hx, Option.toList_some, List.foldl_append]
    rfl
  · rw [List.take_length] at hw
    exact s_retW ((R1.same e2).back hw) rfl k
abbrev Nlaw_keeps : List Str := ["_law_residue", "_law_filling", "_law_clause_here", "_law_literal"]
theorem sc_law_keeps : FnScope Nlaw_keeps ["_law_residue", "_law_filling"] (defScope sQlaw_keeps) := ⟨rfl, rfl, rfl, by decide +kernel, rfl, by decide +kernel, by decide +kernel⟩
theorem cal_law_keeps (T : Tx K mg base) : Cal P w K mg base 1 "_law_keeps" (spT K P_law_keeps) [] := by
  have sc := sc_law_keeps
  refine cal_t T 72 57 rfl rfl sc (fun _ _ _ _ _ _ us hl => match us, hl with | [_, _], _ => rfl) (fun as d h => ?_) (by decide) fun cdv A outer s H Q E hr => ?_
  · (first | (obtain ⟨_, rfl, _⟩ := h; rfl) | (obtain ⟨_, _, rfl, _⟩ := h; rfl) | (obtain ⟨_, _, _, rfl, _⟩ := h; rfl) | (obtain ⟨_, _, _, _, rfl, _⟩ := h; rfl) | (obtain ⟨_, _, _, _, _, rfl, _⟩ := h; rfl) | (obtain ⟨_, _, _, _, _, _, rfl, _⟩ := h; rfl) | (obtain ⟨_, _, _, _, _, _, _, rfl, _⟩ := h; rfl) | (obtain ⟨_, _, _, _, _, _, _, _, rfl, _⟩ := h; rfl))
  refine ⟨_, (pss_cons (ps_for PassesOwn.never rfl (pi_tup (pv 0)) (pg_name (i := 2) sc.nd rfl (by first | exact Or.inl rfl | exact Or.inr rfl))
      (pss_one (ps_if (pt_cmpR (op_eqD (u64 hr)) (pe_lc (own := [("_law_literal", 3)]) rfl sc.nd (pi_tup (pv 2)) (blkOk_by (own := [("_law_literal", 3)]) (N := Nlaw_keeps) (sc := defScope sQlaw_keeps) (by decide +kernel)) (fun _ _ _ _ _ => (pg_name (i := 3) sc.nd rfl (Or.inl rfl))) (fun _ _ _ _ _ => pts_one (pt_cmpR (k_in K rfl) (pv 3) (pv 1) (by rfl))) (fun _ _ _ _ _ => (pv 3))) (pe_lst pa_nil) (nomark _))
        (pss_one (ps_ret pe_bl))
        pss_nil)))
    (pss_one (ps_ret pe_bl))), fun as d h k σ R => ?_⟩
  obtain ⟨G, f, rfl, hG, rfl⟩ := h
  refine sq (s_forP (xs := G) (enc := dC) R (et_v R rfl) (fun _ => [.t (dR G), .t (dC f), .any, .any]) (fun n _ => (G.take n).all (fun c => c.any fun l => f.contains l) = true) rfl (fun _ _ => rfl) (fun Hm n c v σ2 H2 hc R2 hφ back tv => ?_) fun σ2 H2 R2 hφ => ?_)
  · refine g_name R2 tv fun σ3 R3 => ?_
    refine s_if (eb_t (ET.eq (et_eqLL (es := []) (el_compT (i := 3) (xs := c) (enc := .int) (p := fun l => f.contains l) (f := .int) R3 (et_v R3 (i := 2) rfl) (Nat.le_trans (hG.2 c (List.mem_of_getElem? hc)) (by decide)) fun m l hm σ4 H4 R4 e4 => ⟨eb_t (et_inT (et_v R4 rfl) (et_v R4 rfl)), fun _ => et_v R4 rfl⟩) el_nil (shp_li _).shaped (shp_li []).shaped) (congrArg PyData.bool (eqv_ll (c.filter fun l => f.contains l) [])))) (fun hb H4 e4 => ?_) fun hb H4 e4 => ⟨((R3.same e4).forget 2).eq rfl, ?_⟩
    · have he : c.filter (fun l => f.contains l) = [] := of_decide_eq_true hb
      have hk : keepsB G f = false := by
        unfold keepsB
        rw [List.all_eq_false]
        refine ⟨c, List.mem_of_getElem? hc, fun q => ?_⟩
        obtain ⟨l, hl, hl2⟩ := List.any_eq_true.mp q
        have : l ∈ c.filter (fun l => f.contains l) := List.mem_filter.mpr ⟨hl, hl2⟩
        rw [he] at this
        cases this
      rw [hk] at k
      exact s_ret et_bl fun v' H5 e5 t5 => k v' H5 ((back (R3.same e4)).base.trans e5) t5
    · rw [List.take_add_one, hc, Option.toList_some, List.all_append, hφ]
      have he := of_decide_eq_false hb
      obtain ⟨l, hl⟩ := List.exists_mem_of_ne_nil _ he
      obtain ⟨h1, h2⟩ := List.mem_filter.mp hl
      simp only [Bool.true_and, List.all_cons, List.all_nil, Bool.and_true]
      exact List.any_eq_true.mpr ⟨l, h1, h2⟩
  · rw [List.take_length] at hφ
    have hk : keepsB G f = true := hφ
    rw [hk] at k
    exact k (.bl true) H2 R2.base (.bl true)
abbrev Nlaw_models : List Str := ["_law_formula_here", "_law_found", "_law_rests", "_law_filling", "_law_rest"]
theorem sc_law_models : FnScope Nlaw_models ["_law_formula_here"] (defScope sQlaw_models) := ⟨rfl, rfl, rfl, by decide +kernel, rfl, by decide +kernel, by decide +kernel⟩
theorem cal_law_models (T : Tx K mg base) : Cal P w K mg base 3 "_law_models" (spL K P_law_models) [] := by
  have sc := sc_law_models
  refine cal_l T 73 58 rfl rfl sc (fun _ _ _ _ _ _ us hl => match us, hl with | [_], _ => rfl) (fun as d h => ?_) (by decide) fun cdv A outer s H Q E hr => ?_
  · (first | (obtain ⟨_, rfl, _⟩ := h; rfl) | (obtain ⟨_, _, rfl, _⟩ := h; rfl) | (obtain ⟨_, _, _, rfl, _⟩ := h; rfl) | (obtain ⟨_, _, _, _, rfl, _⟩ := h; rfl) | (obtain ⟨_, _, _, _, _, rfl, _⟩ := h; rfl) | (obtain ⟨_, _, _, _, _, _, rfl, _⟩ := h; rfl) | (obtain ⟨_, _, _, _, _, _, _, rfl, _⟩ := h; rfl) | (obtain ⟨_, _, _, _, _, _, _, _, rfl, _⟩ := h; rfl))
  refine ⟨_, (pss_cons (ps_set (i := 1) sc.nd rfl (by first | exact Or.inl rfl | exact Or.inr rfl) (pe_lst pa_nil))
    (pss_cons (ps_set (i := 2) sc.nd rfl (by first | exact Or.inl rfl | exact Or.inr rfl) (pe_c (cal_law_fillings T) hr (by decide) rfl (pa_cons (pe_ix ix_tup (pv 0) pe_int (fun _ _ => rfl)) pa_nil)))
    (pss_cons (ps_for PassesOwn.never rfl (pi_list (pe_c (cal_law_fillings T) hr (by decide) rfl (pa_cons (pe_ix ix_tup (pv 0) pe_int (fun _ _ => rfl)) pa_nil))) (pg_name (i := 3) sc.nd rfl (by first | exact Or.inl rfl | exact Or.inr rfl))
      (pss_one (ps_for PassesOwn.never rfl (pi_list (pv 2)) (pg_name (i := 4) sc.nd rfl (by first | exact Or.inl rfl | exact Or.inr rfl))
        (pss_one (ps_if (pt_val (pe_c (cal_law_keeps T) hr (by decide) rfl (pa_cons (pe_ix ix_tup (pv 0) pe_int (fun _ _ => rfl)) (pa_cons (pe_op op_catA (pv 3) (pv 4)) pa_nil))))
          (pss_cons (ps_expr (pe_bm PySem.F.plainAttrs_list PySem.F.slot_list_append PySem.F.type_list_append mt_append (pv 1) (pa_cons (pv 3) pa_nil)))
          (pss_one ps_break))
          pss_nil)))))
    (pss_one (ps_ret (pv 1)))))), fun as d h k σ R => ?_⟩
  obtain ⟨S, Hd, R0, rfl, hSm, hS, hHd, rfl⟩ := h
  refine sq (s_setL R el_nil fun pf σ1 H1 e1 R1 => ?_)
  try unfold tNext
  try dsimp only
  refine sq (s_setL R1 (el_call (ea_t (et_ixT (et_v R1 rfl) et_int (d := dC Hd) rfl) ea_nil) ⟨Hd, rfl, hHd, rfl⟩) fun pr σ2 H2 e2 R2 => ?_)
  obtain ⟨vsr, R2'⟩ := R2.fixed (i := 2) rfl
  clear R2
  try unfold tNext
  try dsimp only
  refine sq ((el_call (P := P_law_fillings) (ea_t (et_ixT (et_v R2' (i := 0) rfl) (et_int (n := 0)) (ds := [dC S, dC Hd, dR R0]) (d := dC S) rfl) ea_nil) ⟨S, rfl, hS, rfl⟩) H2 (.refl _) _ fun a vs H3 ha e3 hh tt => ?_)
  have R3 : Rel K H H H3 σ2 [.t (dF S Hd R0), Sl.w pf (.lst []), Sl.w pr (.fix vsr ((fillsW Hd).map dC)), .any, .any] := (R2'.same e3).eq rfl
  have apf : a ≠ pf := fun e => by
    obtain ⟨_, _, o, z, _⟩ := R2'.sl 1 _ rfl
    rw [← e, ha] at z; cases z
  have apr : a ≠ pr := fun e => by
    obtain ⟨_, _, o, z, _⟩ := R2'.sl 2 _ rfl
    rw [← e, ha] at z; cases z
  have RS := R3.stand [pf, pr] (fun i b c q => by
    rcases i with _ | _ | _ | _ | _ | i <;> simp at q <;> simp [q.1.symm]) (fun i ds q => by
    rcases i with _ | _ | _ | _ | _ | i <;> simp at q)
  have ha3 : off [pf, pr] H3 a = some (.lst vs) := by rw [off_out (by simp [apf, apr])]; exact hh
  have h0F : ∀ b ∈ [pf, pr], H b = none := fun b hb => by
    rcases List.mem_cons.mp hb with rfl | hb
    · exact (R3.sl 1 _ rfl).2.1
    · obtain rfl := List.mem_singleton.mp hb
      exact (R3.sl 2 _ rfl).2.1
  have hfl : (fillsW S).length ≤ 512 := by
    rw [fillsW_len]
    exact Nat.pow_le_pow_right (by decide) hS
  let M : Cl → Bool := fun f => (fillsW Hd).any fun r => keepsB R0 (f ++ r)
  refine ⟨a, rfl, ⟨vs, .inl (.inl hh)⟩, for_list (K := K) (a := a) (xs := vs) (fun n σ' H' => Rel K (off [pf, pr] H3) H3 H' σ' [.t (dF S Hd R0), Sl.w pf (.lst ((((fillsW S).take n).filter M).map dC)), Sl.w pr (.fix vsr ((fillsW Hd).map dC)), .any, .any]) RS (fun n σ' H' _ hw => .inl (.inl (hw.base _ _ ha3))) (fun n v σ' H' hn hw => ?_) fun σ' H' hw => ?_⟩
  · obtain ⟨d, hd0, td⟩ := tt.get' hn
    obtain ⟨f, hf, rfl⟩ := map_get hd0
    have hfm := List.mem_of_getElem? hf
    have hfl2 := fillsW_mem hfm
    refine g_name hw (td.k hw.keep) fun σ4 R4 => ?_
    have hle : ((((fillsW S).take n).filter M).map dC).length ≤ 100000 := by
      rw [List.length_map]
      have := List.length_filter_le M ((fillsW S).take n)
      rw [List.length_take] at this
      omega
    have htk : ((fillsW S).take (n + 1)).filter M = ((fillsW S).take n).filter M ++ if M f = true then [f] else [] := by
      rw [List.take_add_one, hf, Option.toList_some, List.filter_append]
      congr 1
      by_cases q : M f = true <;> simp [q]
    refine s_forO (xs := fillsW Hd) (enc := dC) R4 (i := 2) rfl (fun _ => [.t (dF S Hd R0), Sl.w pf (.lst ((((fillsW S).take n).filter M).map dC)), Sl.w pr (.fix vsr ((fillsW Hd).map dC)), .t (dC f), .any]) (fun m _ => ((fillsW Hd).take m).any (fun r => keepsB R0 (f ++ r)) = false) (fun _ => rfl) rfl rfl (fun Hm m r v5 σ5 H5 hr5 R5 hφ back tv => ?_) fun σ5 H5 R5 hφ => ?_
    · refine g_name R5 tv fun σ6 R6 => ?_
      have hrm := List.mem_of_getElem? hr5
      have hrl := fillsW_mem hrm
      refine s_if (eb_B (et_call (ea_t (et_ixT (et_v R6 rfl) et_int (d := dR R0) rfl) (ea_t (ET.eq (et_catT (ds := f.map .int) (es := r.map .int) (et_v R6 rfl) (et_v R6 rfl) (by simp; omega)) (show PyData.tuple (f.map .int ++ r.map .int) = dC (f ++ r) by unfold dC; rw [List.map_append])) ea_nil)) ⟨R0, f ++ r, rfl, hSm, rfl⟩)) (fun hb H7 e7 => ?_) fun hb H7 e7 => ⟨((R6.same e7).forget 4).eq rfl, ?_⟩
      · have hM : M f = true := List.any_eq_true.mpr ⟨r, hrm, hb⟩
        refine sq (s_append (R6.same e7) rfl (et_v (R6.same e7) (i := 3) rfl) hle fun H8 R8 => ?_)
        refine (((back R8).forget 3).forget 4).eq ?_
        rw [htk, if_pos hM, List.map_append]
        rfl
      · rw [List.take_add_one, hr5, Option.toList_some, List.any_append, hφ]
        simpa using hb
    · rw [List.take_length] at hφ
      refine ((R5.forget 3).forget 4).eq ?_
      have hM : ¬ M f = true := fun q => by
        have q' : (fillsW Hd).any (fun r => keepsB R0 (f ++ r)) = true := q
        rw [hφ] at q'; cases q'
      rw [htk, if_neg hM, List.append_nil]
      rfl
  · have hvl : vs.length = (fillsW S).length := by rw [tt.length, List.length_map]
    rw [hvl, List.take_length] at hw
    have RE := R3.unstand h0F hw (fun i ds q => by
      rcases i with _ | _ | _ | _ | _ | i <;> simp at q)
    exact s_retW RE rfl k
end
end CW

set_option maxRecDepth 100000
set_option maxHeartbeats 4000000
/-! Readings of draws. -/
namespace CW
open PySem PySem.Spec PyProof.Rows L2
open C8 (Cal Met Mak pe_c pe_mk pe_mt pe_mt0)
structure Db (H0 : Hp) (dp cp : Addr) (cells : List Int) : Prop where
  c : H0 cp = some (.lst (cells.map V.int))
  ne : dp ≠ cp
  len : cells.length ≤ 90000
section
variable {K : PySem.W.Frag} {H0 Hk H H' : Hp} {σ : L2.St} {Γ : List Sl} {te ta tm tl : TE} {dp cp : Addr} {cells : List Int} {a b c n m : Int} {i : Nat} {D : Ends} {xs : List V} {E : XK} {Q : VK} {ns : List Int}
theorem Db.dr (B : Db H0 dp cp cells) (R : Rel K H0 Hk H σ (drS dp cp a b c :: Γ)) (la : -1 ≤ a) : Dr H dp cp cells a b c := ⟨(raw_at (i := 0) R rfl).2, R.base _ _ B.c, B.ne, la, B.len⟩
theorem Rel.drawn {a' b' c' : Int} (R : Rel K H0 Hk H σ (drS dp cp a b c :: Γ)) (e : Same (off [dp] H) H') (h : Dr H' dp cp cells a' b' c') : Rel K H0 Hk H' σ (drS dp cp a' b' c' :: Γ) :=
  (R.mut (i := 0) (c' := .raw (.lst (drL cp a' b' c')) []) (o' := .lst (drL cp a' b' c')) rfl ⟨rfl, (fun ys z => by cases z), fun t ht => by cases ht⟩).same (off_upd e h.d)
theorem take_run (B : Db H0 dp cp cells) (R : Rel K H0 Hk H σ (drS dp cp a b c :: Γ)) (la : -1 ≤ a) (hm : ET K tm σ H (.int m)) (m0 : 0 < m) (m1 : m ≤ 1000)
    (k : ∀ r a' b' c' H', 0 ≤ r → r < m → -1 ≤ a' → Rel K H0 Hk H' σ (drS dp cp a' b' c' :: Γ) → (∀ p ys, H p = some (.lst ys) → p ≠ dp → H' p = some (.lst ys)) → Q (.int r) H') : tCall spLk [] E (tCons (tVar 0) (tCons tm tNil)) σ H Q := by
  refine ⟨.ref dp, (raw_at (i := 0) R rfl).1, hm H (.refl _) _ fun v H2 e2 t2 => ?_⟩
  obtain rfl := t2.i
  have R2 := R.same e2
  refine ⟨dp, m, cp, cells, a, b, c, rfl, B.dr R2 la, m0, m1, fun r H3 a' b' c' h0 h1 e3 hd => k r a' b' c' H3 h0 h1 hd.lo (R2.drawn e3 hd) fun p ys hp hne => e3 _ _ ?_⟩
  rw [off_out (by simpa using hne)]
  exact e2 _ _ hp
/-- [..][take(draw, n)] -/
theorem pick_run (B : Db H0 dp cp cells) (R : Rel K H0 Hk H σ (drS dp cp a b c :: Γ)) (la : -1 ≤ a) (hl : EL K tl σ H (ns.map .int)) (hm : (ns.length : Int) = m) (m0 : 0 < m) (m1 : m ≤ 1000)
    (k : ∀ x a' b' c' H', x ∈ ns → -1 ≤ a' → Rel K H0 Hk H' σ (drS dp cp a' b' c' :: Γ) → Q (.int x) H') : tOp (rIxL K) tl (tCall spLk [] E (tCons (tVar 0) (tCons (tC (.int m)) tNil))) σ H Q :=
  hl H (.refl _) _ fun p vs H2 hp e2 hh tt => by
    obtain rfl := tt.ints
    have R2 := R.same e2
    have pne : p ≠ dp := fun e => by
      have := (raw_at (i := 0) R rfl).2
      rw [← e, hp] at this; cases this
    refine take_run B R2 la et_int m0 m1 fun r a' b' c' H3 h0 h1 la' R3 pres => ?_
    obtain ⟨j, rfl⟩ : ∃ j : Nat, r = (j : Int) := ⟨r.toNat, by omega⟩
    have hj : j < ns.length := by omega
    exact ⟨p, _, (j : Int), .int ns[j], rfl, rfl, SqL.of (pres p _ hh pne), L2.atI_nat (by rw [List.getElem?_map, List.getElem?_eq_getElem hj]; rfl), k _ a' b' c' H3 (List.getElem_mem hj) la' R3⟩
/-- xs[take(draw, len(xs))] -/
theorem pickL_run {p : Addr} (B : Db H0 dp cp cells) (R : Rel K H0 Hk H σ (drS dp cp a b c :: Γ)) (la : -1 ≤ a) (h : Γ[i]? = some (Sl.w p (.lst (ns.map .int)))) (m0 : 0 < ns.length) (m1 : ns.length ≤ 1000)
    (k : ∀ x a' b' c' H', x ∈ ns → -1 ≤ a' → Rel K H0 Hk H' σ (drS dp cp a' b' c' :: Γ) → Q (.int x) H') : tOp (rIxL K) (tVar (i + 1)) (tCall spLk [] E (tCons (tVar 0) (tCons (tCB (fun xs H Q => ∃ p ys, xs = [.ref p] ∧ (SqL K H p ys ∨ SqT K H p ys) ∧ Q (.int ys.length) H) (tCons (tVar (i + 1)) tNil)) tNil))) σ H Q := by
  have h' : (drS dp cp a b c :: Γ)[i + 1]? = some (Sl.w p (.lst (ns.map .int))) := h
  obtain ⟨s1, _, o, s3, vs, rfl, s5⟩ := R.sl (i + 1) _ h'
  obtain rfl := s5.ints
  have pne : p ≠ dp := R.own (i + 1) 0 p dp _ _ (by omega) h' rfl
  refine ⟨.ref p, s1, take_run (m := (ns.length : Int)) B R la (ET.eq (et_lenL (e1_w R h')) (by rw [List.length_map])) (by omega) (by omega) fun r a' b' c' H3 h0 h1 la' R3 pres => ?_⟩
  obtain ⟨j, rfl⟩ : ∃ j : Nat, r = (j : Int) := ⟨r.toNat, by omega⟩
  have hj : j < ns.length := by omega
  exact ⟨p, _, (j : Int), .int ns[j], rfl, rfl, SqL.of (pres p _ s3 pne), L2.atI_nat (by rw [List.getElem?_map, List.getElem?_eq_getElem hj]; rfl), k _ a' b' c' H3 (List.getElem_mem hj) la' R3⟩
theorem app_fin {p : Addr} {ds : List PyData} {d : PyData} {v : V} {Q : VK} (R : Rel K H0 Hk H σ Γ) (h : Γ[i]? = some (Sl.w p (.lst ds))) (tv : Td K H v d) (hz : ds.length ≤ 100000) (k : ∀ H', Rel K H0 Hk H' σ (Γ.set i (Sl.w p (.lst (ds ++ [d])))) → Q .non H') : rAppend (.ref p) [v] H Q := by
  obtain ⟨h1, h2, o, h3, vs, rfl, h5⟩ := R.sl i _ h
  refine ⟨p, vs, v, rfl, rfl, h3, by rw [h5.length]; exact Nat.lt_of_le_of_lt hz (by decide), ?_⟩
  exact k _ (R.mut h ⟨vs ++ [v], rfl, h5.snoc tv⟩)
theorem s_rng2W {t : TS} {tlo thi : TE} {lo n : Int} (hl : ET K tlo σ H (.int lo)) (hs : ET K thi σ H (.int n)) (h1 : n < 2 ^ 62) (h2 : lo ≤ n) (h3 : -(2 ^ 62) ≤ lo)
    (h : ∀ H2, Same H H2 → ∃ W : Nat → L2.St → Hp → Prop, W 0 σ H2 ∧ (∀ (m : Nat) σ' H', lo + (m : Int) < n → W m σ' H' → t { D with nx := W (m + 1), ct := W (m + 1), bk := D.nx } (σ'.set i (some (.int (lo + (m : Int))))) H') ∧ ∀ σ' H', W (n - lo).toNat σ' H' → D.nx σ' H') : tFor (iRng2 (tCons tlo (tCons thi tNil))) (gName i) t D σ H :=
  hl H (.refl _) _ fun v1 H1 e1 q1 => hs H1 e1 _ fun v H2 e2 q => by
    obtain ⟨W, w0, w1, w2⟩ := h H2 (e1.trans e2)
    exact ⟨lo, n, by rw [q.i, q1.i], by omega, for_range W w0 (fun m σ' H' hm hw => w1 m σ' H' (by omega) hw) w2⟩
/-- range(n), n at hand -/
theorem s_rngV {t : TS} {n : Int} (h1 : n < 2 ^ 62) (h2 : 0 ≤ n) (W : Nat → L2.St → Hp → Prop) (w0 : W 0 σ H)
    (w1 : ∀ (m : Nat) σ' H', (m : Int) < n → W m σ' H' → t { D with nx := W (m + 1), ct := W (m + 1), bk := D.nx } (σ'.set i (some (.int (m : Int)))) H') (w2 : ∀ σ' H', W n.toNat σ' H' → D.nx σ' H') :
    ∃ j : Int, [V.int n] = [.int j] ∧ -(2 ^ 62) ≤ j ∧ j < 2 ^ 62 ∧ ∃ W : Nat → Nat → L2.St → Hp → Prop, (∃ m, W 0 m σ H) ∧ ∀ i' m σ H, W i' m σ H →
      ((Itr 0 j.toNat).stop i' H ∧ D.nx σ H) ∨ ((Itr 0 j.toNat).go i' H ∧ ∃ N : L2.St → Hp → Prop, (∀ σ' H', N σ' H' → ∃ m', m' < m ∧ W (i' + 1) m' σ' H') ∧ ∀ x H', (Itr 0 j.toNat).yld i' H x H' → gName i x σ H' fun σ2 H2 => t { D with nx := N, ct := N, bk := D.nx } σ2 H2) :=
  ⟨n, rfl, by omega, h1, for_range W w0 (fun m σ' H' hm hw => by
    show t _ (σ'.set i (some (.int ((0 : Int) + (m : Nat))))) H'
    rw [Int.zero_add]
    exact w1 m σ' H' (by omega) hw) w2⟩
end
end CW

/-! Plain: what the drawn formula is. -/
namespace CW
open PySem
structure FormOk (S Hd : List Int) (R0 : Rs) : Prop where
  s5 : S.length ≤ 5
  h2 : Hd.length ≤ 2
  nd : (S ++ Hd).Nodup
  lo : ∀ v ∈ S ++ Hd, 1 ≤ v ∧ v ≤ 999
  r6 : R0.length ≤ 6
  can : ∀ c ∈ R0, Canon c
  inn : ∀ c ∈ R0, ∀ l ∈ c, iabs l ∈ S ++ Hd
def NamesOk (m : Nat) (ns : List Int) : Prop := ns.length = m + 1 ∧ ns.Pairwise (· < ·) ∧ ∀ v ∈ ns, 1 ≤ v ∧ v ≤ 3 + 91 * m
theorem names_start {x : Int} (h1 : 1 ≤ x) (h2 : x ≤ 3) : NamesOk 0 [x] := ⟨rfl, List.pairwise_singleton _ _, fun v hv => by
  obtain rfl := List.mem_singleton.mp hv
  omega⟩
theorem names_next {m : Nat} {ns : List Int} {z : Int} (h : NamesOk m ns) (hm : m < ns.length) (h1 : 0 ≤ z) (h2 : z < 90) : NamesOk (m + 1) (ns ++ [ns[m] + 1 + z]) := by
  obtain ⟨g1, g2, g3⟩ := h
  have hl : ∀ v ∈ ns, v ≤ ns[m] := fun v hv => by
    obtain ⟨i, hi, rfl⟩ := List.mem_iff_getElem.mp hv
    by_cases q : i = m
    · subst q; exact Int.le_refl _
    · have := List.pairwise_iff_getElem.mp g2 i m hi hm (by omega)
      omega
  have hb := g3 _ (List.getElem_mem hm)
  refine ⟨by rw [List.length_append, g1]; rfl, ?_, fun v hv => ?_⟩
  · rw [List.pairwise_append]
    refine ⟨g2, List.pairwise_singleton _ _, fun x hx y hy => ?_⟩
    obtain rfl := List.mem_singleton.mp hy
    have := hl x hx
    omega
  · rcases List.mem_append.mp hv with hv | hv
    · have := g3 v hv
      omega
    · obtain rfl := List.mem_singleton.mp hv
      omega
theorem names_nodup {m : Nat} {ns : List Int} (h : NamesOk m ns) : ns.Nodup := h.2.1.imp fun q e => by omega
theorem eraseIdx_perm : ∀ {xs : List Int} {j : Nat} (h : j < xs.length), (xs[j] :: xs.eraseIdx j).Perm xs
  | x :: xs, 0, _ => .refl _
  | x :: xs, j + 1, h => by
    have hj : j < xs.length := by simpa using h
    have ih := eraseIdx_perm hj
    simp only [List.getElem_cons_succ, List.eraseIdx_cons_succ]
    exact (List.Perm.swap x xs[j] _).trans (ih.cons x)
/-- hidden ones taken out one by one -/
def TakenOk (all names hidden : List Int) : Prop := (names ++ hidden).Perm all
theorem taken_next {all names hidden : List Int} {j : Nat} (h : TakenOk all names hidden) (hj : j < names.length) : TakenOk all (names.eraseIdx j) (hidden ++ [names[j]]) := by
  unfold TakenOk at *
  refine List.Perm.trans ?_ h
  have h1 : (names[j] :: names.eraseIdx j).Perm names := eraseIdx_perm hj
  have h2 : (names.eraseIdx j ++ (hidden ++ [names[j]])).Perm (names[j] :: (names.eraseIdx j ++ hidden)) := by
    rw [← List.append_assoc]
    exact List.perm_append_comm
  refine h2.trans ?_
  rw [← List.cons_append]
  exact h1.append_right hidden
theorem litKey_eq (l : Int) : litKey l = .tuple [.int (iabs l), .int (if l > 0 then 1 else 0)] := by
  unfold litKey iabs
  by_cases q : l > 0
  · rw [if_pos q, if_pos q, if_neg (by omega)]
  · rw [if_neg q, if_neg q]
    by_cases q2 : l < 0
    · rw [if_pos q2]
    · have : l = 0 := by omega
      subst this
      rfl
theorem mem_sortL {ls : List Int} {l : Int} : l ∈ sortL ls ↔ l ∈ ls := (List.mergeSort_perm _ _).mem_iff
theorem canon_sortL {ls : List Int} (h : (ls.map iabs).Nodup) : Canon (sortL ls) := by
  have e : PySem.W.dataLe false litKey = fun p q => decide (iabs p < iabs q ∨ (iabs p = iabs q ∧ (if p > 0 then (1 : Int) else 0) ≤ (if q > 0 then 1 else 0))) := by
    rw [show litKey = fun l => PyData.tuple [.int (iabs l), .int (if l > 0 then 1 else 0)] from funext litKey_eq]
    exact PySem.W.dataLe_ii iabs fun l => if l > 0 then 1 else 0
  have hs : (sortL ls).Pairwise fun p q => iabs p ≤ iabs q := by
    unfold sortL
    rw [e]
    have := List.pairwise_mergeSort (le := fun p q : Int => decide (iabs p < iabs q ∨ (iabs p = iabs q ∧ (if p > 0 then (1 : Int) else 0) ≤ (if q > 0 then 1 else 0)))) (fun a b c h1 h2 => by
      simp only [decide_eq_true_eq] at *
      omega) (fun a b => by
      simp only [Bool.or_eq_true, decide_eq_true_eq]
      omega) ls
    exact this.imp fun h => by
      simp only [decide_eq_true_eq] at h
      omega
  have hn : ((sortL ls).map iabs).Nodup := ((List.mergeSort_perm ls _).map iabs).nodup_iff.mpr h
  have hn' : (sortL ls).Pairwise fun p q => iabs p ≠ iabs q := by
    unfold List.Nodup at hn
    rw [List.pairwise_map] at hn
    exact hn
  exact (hs.and hn').imp fun h => by omega
end CW

set_option maxRecDepth 100000
set_option maxHeartbeats 4000000
/-! _law_formula. -/
namespace CW
open PySem PySem.Spec PyProof.Rows L2
open C8 (Cal Met Mak pe_c pe_mk pe_mt pe_mt0)
section
variable {K : PySem.W.Frag} {H0 Hk H : Hp} {σ : L2.St} {Γ : List Sl} {te ta tb : TE} {rd : R2} {g : TG} {D : Ends} {Q : VK} {t u : TS} {i : Nat} {t1 t2 : TT} {b1 : Bool}
theorem s_asgQ (h : te σ H fun v H1 => g v σ H1 D.nx) : tAsg te g D σ H := h
theorem op_Q (h : ta σ H fun x H1 => tb σ H1 fun y H2 => rd x y H2 Q) : tOp rd ta tb σ H Q := h
theorem op_l {n : Int} (h : tb σ H fun y H2 => rd (.int n) y H2 Q) : tOp rd (tC (.int n)) tb σ H Q := h
theorem lst1 (h : te σ H fun v H1 => [v].length ≤ sizeLine ∧ ∀ p, H1 p = none → Q (.ref p) (upd H1 p (.lst [v]))) : tLst (tCons te tNil) σ H Q := h
theorem s_appQ {p : Addr} {ds : List PyData} (R : Rel K H0 Hk H σ Γ) (h : Γ[i]? = some (Sl.w p (.lst ds))) (hx : te σ H fun v H' => rAppend (.ref p) [v] H' fun _ H'' => D.nx σ H'') : tDrop (tBM K "list" rAppend (tVar i) (tCons te tNil)) D σ H := by
  obtain ⟨h1, h2, o, h3, vs, rfl, h5⟩ := R.sl i _ h
  exact ⟨_, h1, .inl ⟨rfl, _, SqL.of h3⟩, hx⟩
theorem bmQ {p : Addr} {ds : List PyData} {r : V → List V → Hp → VK → Prop} (R : Rel K H0 Hk H σ Γ) (h : Γ[i]? = some (Sl.w p (.lst ds))) (hx : te σ H fun v H' => r (.ref p) [v] H' Q) : tBM K "list" r (tVar i) (tCons te tNil) σ H Q := by
  obtain ⟨h1, h2, o, h3, vs, rfl, h5⟩ := R.sl i _ h
  exact ⟨_, h1, .inl ⟨rfl, _, SqL.of h3⟩, hx⟩
theorem for_rng1 (h : te σ H fun v H1 => ∃ j : Int, [v] = [.int j] ∧ -(2 ^ 62) ≤ j ∧ j < 2 ^ 62 ∧ ∃ W : Nat → Nat → L2.St → Hp → Prop, (∃ m, W 0 m σ H1) ∧ ∀ i' m σ H, W i' m σ H →
      ((Itr 0 j.toNat).stop i' H ∧ D.nx σ H) ∨ ((Itr 0 j.toNat).go i' H ∧ ∃ N : L2.St → Hp → Prop, (∀ σ' H', N σ' H' → ∃ m', m' < m ∧ W (i' + 1) m' σ' H') ∧ ∀ x H', (Itr 0 j.toNat).yld i' H x H' → gName i x σ H' fun σ2 H2 => t { D with nx := N, ct := N, bk := D.nx } σ2 H2)) : tFor (iRng1 (tCons te tNil)) (gName i) t D σ H := by
  show te σ H _
  exact h
theorem if_and (h : EB t1 σ H b1) (ht : b1 = true → ∀ H', Same H H' → tIfS t2 t u D σ H') (hf : b1 = false → ∀ H', Same H H' → u D σ H') : tIfS (tAnd t1 t2) t u D σ H := by
  refine h H (.refl _) _ fun H1 e1 => ?_
  cases b1 with
  | true => exact iteT (ht rfl H1 e1)
  | false => exact iteF (iteF (hf rfl H1 e1))
theorem if_op (h : ta σ H fun x H1 => tb σ H1 fun y H2 => rd x y H2 fun v H3 => ∃ k, v = .bl k ∧ if k = true then t D σ H3 else u D σ H3) : tIfS (tTest (tOp rd ta tb)) t u D σ H := h
theorem g_w {p : Addr} {o : HO} {c : Ct} {H' : Hp} {Q : L2.St → Hp → Prop} (R : Rel K H0 Hk H σ Γ) (e : Same H H') (hp : H p = none) (ho : H' p = some o) (hc : CtOk K H' c o) (k : ∀ σ', Rel K H0 Hk H' σ' (Γ.set i (Sl.w p c)) → Q σ' H') : gName i (.ref p) σ H' Q := k _ (R.set_w i e hp ho hc)
theorem join {t : TS} (M : L2.St → Hp → Prop) (k : ∀ σ' H', M σ' H' → D.nx σ' H') (h : (∀ σ' H', M σ' H' → D.nx σ' H') → t D σ H) : t D σ H := h k
end
theorem eraseIdx_mapV : ∀ (ns : List Int) (j : Nat), (ns.map V.int).eraseIdx j = (ns.eraseIdx j).map V.int
  | [], _ => rfl
  | _ :: _, 0 => rfl
  | n :: ns, j + 1 => by
    rw [List.map_cons, List.eraseIdx_cons_succ, List.eraseIdx_cons_succ, List.map_cons, eraseIdx_mapV ns j]
def RowsOk (every : List Int) (n : Nat) (rows : Rs) : Prop := rows.length ≤ n ∧ ∀ c ∈ rows, Canon c ∧ c.length ≤ 5 ∧ ∀ l ∈ c, iabs l ∈ every
def RowOkP (every : List Int) (m : Nat) (row : List Int) : Prop := row.length ≤ m ∧ (row.map iabs).Nodup ∧ ∀ l ∈ row, iabs l ∈ every
theorem shp_rowsL (rows : Rs) : Shp 2 (.list (rows.map dC)) := shp_lst (n := 1) fun d hd => by
  obtain ⟨c, _, rfl⟩ := List.mem_map.mp hd
  exact shp_dC c
theorem rows_add {every : List Int} {n : Nat} {rows : Rs} {row : List Int} (h : RowsOk every n rows) (h2 : RowOkP every 5 row) : RowsOk every (n + 1) (rows ++ [sortL row]) := ⟨by
  rw [List.length_append]
  have := h.1
  simp
  omega, fun c hc => by
  rcases List.mem_append.mp hc with hc | hc
  · exact h.2 c hc
  · obtain rfl := List.mem_singleton.mp hc
    refine ⟨canon_sortL h2.2.1, ?_, fun l hl => h2.2.2 l (mem_sortL.mp hl)⟩
    unfold sortL
    rw [(List.mergeSort_perm _ _).length_eq]
    exact h2.1⟩
theorem row_add {every : List Int} {m : Nat} {row : List Int} {x : Int} (h : RowOkP every m row) (hx : iabs x ∈ every) (h1 : x ∉ row) (h2 : -x ∉ row) : RowOkP every (m + 1) (row ++ [x]) := by
  refine ⟨by rw [List.length_append]; have := h.1; simpa using this, ?_, fun l hl => ?_⟩
  · rw [List.map_append, List.nodup_append]
    refine ⟨h.2.1, by simp, fun a ha b hb e => ?_⟩
    obtain ⟨z, hz, rfl⟩ := List.mem_map.mp ha
    have hb' : b = iabs x := by simpa using hb
    rw [hb'] at e
    rcases iabs_eq e with rfl | rfl
    · exact h1 hz
    · exact h2 hz
  · rcases List.mem_append.mp hl with hl | hl
    · exact h.2.2 l hl
    · obtain rfl := List.mem_singleton.mp hl
      exact hx
abbrev tlF (s4 s5 s6 s7 s8 s9 s10 s11 s12 s13 s14 s15 : Sl) : List Sl := [.t (.int 5), .t (.int 2), .t (.int 6), s4, s5, s6, s7, s8, s9, s10, s11, s12, s13, s14, s15]
section
variable {P : Program} {w : World} {K : PySem.W.Frag} {mg : Str → Option Value} {base : Heap}
/-- _law_formula(draw, 5, 2, 6) -/
def spLf (K : PySem.W.Frag) : Sp := fun vs H Q _ => ∃ dp cp cells a b c, vs = [.ref dp, .int 5, .int 2, .int 6] ∧ Dr H dp cp cells a b c ∧ ∀ v H' S Hd R0 a' b' c', FormOk S Hd R0 → Same (off [dp] H) H' → Dr H' dp cp cells a' b' c' → Td K H' v (dF S Hd R0) → Q v H'
abbrev Nlaw_formula : List Str := ["_law_draw_here", "_law_most", "_law_hidden_most", "_law_clauses", "_law_step", "_law_count", "_law_extra", "_law_names", "_law_k", "_law_hidden", "_law_every", "_law_rows", "_law_row", "_law_size", "_law_j", "_law_literal"]
theorem sc_law_formula : FnScope Nlaw_formula ["_law_draw_here", "_law_most", "_law_hidden_most", "_law_clauses"] (defScope sQlaw_formula) := ⟨rfl, rfl, rfl, by decide +kernel, rfl, by decide +kernel, by decide +kernel⟩
theorem cal_law_formula (T : Tx K mg base) : Cal P w K mg base 4 "_law_formula" (spLf K) [] := by
  have sc := sc_law_formula
  refine cal_of T 69 54 rfl rfl sc (fun _ _ _ _ _ _ us hl => match us, hl with | [_, _, _, _], _ => rfl) (fun vs H Q E h => ?_) fun cdv A outer s H vs Q E hr h => ?_
  · obtain ⟨_, _, _, _, _, _, rfl, _⟩ := h; rfl
  refine ⟨_, (pss_cons (ps_set (i := 4) sc.nd rfl (by first | exact Or.inl rfl | exact Or.inr rfl) (pe_ix ix_list (pe_lst (pa_cons pe_int (pa_cons pe_int (pa_cons pe_int (pa_cons pe_int pa_nil))))) (pe_c (cal_law_take T) hr (by decide) rfl (pa_cons (pv 0) (pa_cons pe_int pa_nil))) (fun _ _ => rfl)))
    (pss_cons (ps_set (i := 5) sc.nd rfl (by first | exact Or.inl rfl | exact Or.inr rfl) (pe_op op_add pe_int (pe_c (cal_law_take T) hr (by decide) rfl (pa_cons (pv 0) (pa_cons (pv 1) pa_nil)))))
    (pss_cons (ps_set (i := 6) sc.nd rfl (by first | exact Or.inl rfl | exact Or.inr rfl) (pe_c (cal_law_take T) hr (by decide) rfl (pa_cons (pv 0) (pa_cons (pe_op op_add (pv 2) pe_int) pa_nil))))
    (pss_cons (ps_set (i := 7) sc.nd rfl (by first | exact Or.inl rfl | exact Or.inr rfl) (pe_lst (pa_cons (pe_op op_add pe_int (pe_c (cal_law_take T) hr (by decide) rfl (pa_cons (pv 0) (pa_cons pe_int pa_nil)))) pa_nil)))
    (pss_cons (ps_for PassesOwn.never rfl (pi_range2 rfl T.f_range (pa_cons pe_int (pa_cons (pe_op op_add (pv 5) (pv 6)) pa_nil))) (pg_name (i := 8) sc.nd rfl (by first | exact Or.inl rfl | exact Or.inr rfl))
      (pss_one (ps_expr (pe_bm PySem.F.plainAttrs_list PySem.F.slot_list_append PySem.F.type_list_append mt_append (pv 7) (pa_cons (pe_op op_add (pe_op op_add (pe_ix ix_list (pv 7) (pe_op op_sub (pv 8) pe_int) (fun _ _ => rfl)) pe_int) (pe_c (cal_law_take T) hr (by decide) rfl (pa_cons (pv 0) (pa_cons (pv 4) pa_nil)))) pa_nil)))))
    (pss_cons (ps_set (i := 9) sc.nd rfl (by first | exact Or.inl rfl | exact Or.inr rfl) (pe_lst pa_nil))
    (pss_cons (ps_for PassesOwn.never rfl (pi_range1 rfl T.f_range (pa_cons (pv 6) pa_nil)) (pg_name (i := 8) sc.nd rfl (by first | exact Or.inl rfl | exact Or.inr rfl))
      (pss_one (ps_expr (pe_bm PySem.F.plainAttrs_list PySem.F.slot_list_append PySem.F.type_list_append mt_append (pv 9) (pa_cons (pe_bm PySem.F.plainAttrs_list PySem.F.slot_list_pop PySem.F.type_list_pop mt_popAt (pv 7) (pa_cons (pe_c (cal_law_take T) hr (by decide) rfl (pa_cons (pv 0) (pa_cons (pe_callB call_len_seq (by rfl) T.f_len (by decide +kernel) (pa_cons (pv 7) pa_nil)) pa_nil))) pa_nil)) pa_nil)))))
    (pss_cons (ps_set (i := 10) sc.nd rfl (by first | exact Or.inl rfl | exact Or.inr rfl) (pe_op op_cat (pv 7) (pv 9)))
    (pss_cons (ps_set (i := 11) sc.nd rfl (by first | exact Or.inl rfl | exact Or.inr rfl) (pe_lst pa_nil))
    (pss_cons (ps_for PassesOwn.never rfl (pi_range1 rfl T.f_range (pa_cons (pe_c (cal_law_take T) hr (by decide) rfl (pa_cons (pv 0) (pa_cons (pe_op op_add (pv 3) pe_int) pa_nil))) pa_nil)) (pg_name (i := 8) sc.nd rfl (by first | exact Or.inl rfl | exact Or.inr rfl))
      (pss_cons (ps_set (i := 12) sc.nd rfl (by first | exact Or.inl rfl | exact Or.inr rfl) (pe_lst pa_nil))
      (pss_cons (ps_set (i := 13) sc.nd rfl (by first | exact Or.inl rfl | exact Or.inr rfl) (pe_ix ix_list (pe_lst (pa_cons pe_int (pa_cons pe_int (pa_cons pe_int (pa_cons pe_int (pa_cons pe_int (pa_cons pe_int (pa_cons pe_int (pa_cons pe_int pa_nil))))))))) (pe_c (cal_law_take T) hr (by decide) rfl (pa_cons (pv 0) (pa_cons pe_int pa_nil))) (fun _ _ => rfl)))
      (pss_cons (ps_if (PW.pt (pw_and (pt_cmpR op_eq (pv 13) pe_int (nomark _)) (pw_and1 (pt_cmpR op_gt (pe_c (cal_law_take T) hr (by decide) rfl (pa_cons (pv 0) (pa_cons pe_int pa_nil))) pe_int (nomark _)))))
        (pss_one (ps_set (i := 13) sc.nd rfl (by first | exact Or.inl rfl | exact Or.inr rfl) pe_int))
        pss_nil)
      (pss_cons (ps_for PassesOwn.never rfl (pi_range1 rfl T.f_range (pa_cons (pv 13) pa_nil)) (pg_name (i := 14) sc.nd rfl (by first | exact Or.inl rfl | exact Or.inr rfl))
        (pss_cons (ps_set (i := 15) sc.nd rfl (by first | exact Or.inl rfl | exact Or.inr rfl) (pe_op op_mul (pe_ix ix_list (pv 10) (pe_c (cal_law_take T) hr (by decide) rfl (pa_cons (pv 0) (pa_cons (pe_callB call_len_seq (by rfl) T.f_len (by decide +kernel) (pa_cons (pv 10) pa_nil)) pa_nil))) (fun _ _ => rfl)) (pe_ix ix_list (pe_lst (pa_cons pe_int (pa_cons (pe_un un_neg pe_int) pa_nil))) (pe_c (cal_law_take T) hr (by decide) rfl (pa_cons (pv 0) (pa_cons pe_int pa_nil))) (fun _ _ => rfl))))
        (pss_one (ps_if (PW.pt (pw_and (pt_cmpR op_notIn_seq (pv 15) (pv 12) (by rfl)) (pw_and1 (pt_cmpR op_notIn_seq (pe_un un_neg (pv 15)) (pv 12) (by rfl)))))
          (pss_one (ps_expr (pe_bm PySem.F.plainAttrs_list PySem.F.slot_list_append PySem.F.type_list_append mt_append (pv 12) (pa_cons (pv 15) pa_nil))))
          pss_nil))))
      (pss_one (ps_if (pt_cmpR (op_notInD (u65 hr)) (pe_c (cal_law_clause T) hr (by decide) rfl (pa_cons (pv 12) pa_nil)) (pv 11) (by rfl))
        (pss_one (ps_expr (pe_bm PySem.F.plainAttrs_list PySem.F.slot_list_append PySem.F.type_list_append mt_append (pv 11) (pa_cons (pe_c (cal_law_clause T) hr (by decide) rfl (pa_cons (pv 12) pa_nil)) pa_nil))))
        pss_nil)))))))
    (pss_one (ps_ret (pe_tup (pa_cons (pe_callTy call_tuple_of (by rfl) T.f_tuple (by decide +kernel) (pa_cons (pe_callB cr_sortedI (by rfl) T.f_sorted (by decide +kernel) (pa_cons (pv 7) pa_nil)) pa_nil)) (pa_cons (pe_callTy call_tuple_of (by rfl) T.f_tuple (by decide +kernel) (pa_cons (pe_callB cr_sortedI (by rfl) T.f_sorted (by decide +kernel) (pa_cons (pv 9) pa_nil)) pa_nil)) (pa_cons (pe_callTy call_tuple_of (by rfl) T.f_tuple (by decide +kernel) (pa_cons (pe_c (cal_law_sorted T) hr (by decide) rfl (pa_cons (pv 11) pa_nil)) pa_nil)) pa_nil)))))))))))))))), ?_⟩
  obtain ⟨dp, cp, cells, a, b, c, rfl, hd, k⟩ := h
  have B : Db (off [dp] H) dp cp cells := ⟨by rw [off_out (by simpa using hd.ne.symm)]; exact hd.c, hd.ne, hd.len⟩
  have R00 := rel_off [dp] (K := K) (H := H) (N := Nlaw_formula) (vs := [.ref dp, .int 5, .int 2, .int 6]) (as := [.v (.ref dp), .t (.int 5), .t (.int 2), .t (.int 6)]) (.cons rfl (.cons (.int _) (.cons (.int _) (.cons (.int _) .nil)))) (by simp) (by simp)
  have R0 : Rel K (off [dp] H) H H (start Nlaw_formula [.ref dp, .int 5, .int 2, .int 6]) (drS dp cp a b c :: tlF .any .any .any .any .any .any .any .any .any .any .any .any) := (R00.own1 (i := 0) (ct := .raw (.lst (drL cp a b c)) []) rfl (off_in (by simp)) hd.d ⟨rfl, (fun ys z => by cases z), fun t ht => by cases ht⟩ (fun j q c' z => by
    rcases j with _ | _ | _ | _ | _ | _ | _ | _ | _ | _ | _ | _ | _ | _ | _ | _ | j <;> simp [slots, slOf] at z)).eq rfl
  clear R00
  have la := hd.lo
  refine sq (s_asgQ (pick_run (ns := [1, 1, 3, 90]) (m := 4) B R0 la (el_lst (ds := [.int 1, .int 1, .int 3, .int 90]) (ea_t et_int (ea_t et_int (ea_t et_int (ea_t et_int ea_nil))))) rfl (by decide) (by decide) fun step a1 b1 c1 H1 hst la1 R1 => g_name R1 (.int step) fun σ1 R1 => ?_))
  have hstep : 1 ≤ step ∧ step ≤ 90 := by
    simp only [List.mem_cons, List.not_mem_nil, or_false] at hst
    rcases hst with rfl | rfl | rfl | rfl <;> decide
  try unfold tNext
  try dsimp only
  refine sq (s_asgQ (op_l (take_run (m := 5) B R1 la1 (et_v R1 (i := 1) rfl) (by decide) (by decide) fun r2 a2 b2 c2 H2 r20 r21 la2 R2 _ => ⟨1, r2, rfl, rfl, g_name R2 (.int _) fun σ2 R2 => ?_⟩)))
  try unfold tNext
  try dsimp only
  refine sq (s_asgQ (take_run (m := 2 + 1) B R2 la2 (et_i (g := (· + ·)) (et_v R2 (i := 2) rfl) et_int) (by decide) (by decide) fun ex a3 b3 c3 H3 x0 x1 la3 R3 _ => g_name R3 (.int _) fun σ3 R3 => ?_))
  try unfold tNext
  try dsimp only
  refine sq (s_asgQ (lst1 (op_l (take_run (m := 3) B R3 la3 et_int (by decide) (by decide) fun r4 a4 b4 c4 H4 r40 r41 la4 R4 _ => ⟨1, r4, rfl, rfl, sz1000 (by simp), fun p7 hp7 => g_w R4 (c := .lst [.int (1 + r4)]) (same_upd hp7) hp7 upd_same ⟨_, rfl, .cons (.int _) .nil⟩ fun σ4 R4 => ?_⟩))))
  generalize upd H4 p7 (.lst [V.int (1 + r4)]) = H4 at R4 ⊢
  have R4' : Rel K (off [dp] H) H H4 σ4 (drS dp cp a4 b4 c4 :: tlF (.t (.int step)) (.t (.int (1 + r2))) (.t (.int ex)) (Sl.w p7 (.lst ([1 + r4].map .int))) .any .any .any .any .any .any .any .any) := R4.eq rfl
  clear R0 R1 R2 R3 R4
  try unfold tNext
  try dsimp only
  refine sq (s_rng2W et_int (et_i (g := (· + ·)) (et_v R4' (i := 5) rfl) (et_v R4' (i := 6) rfl)) (by omega) (by omega) (by decide) fun H5 e5 => ⟨fun m σ' H' => ∃ a b c ns, -1 ≤ a ∧ NamesOk m ns ∧ Rel K (off [dp] H) H H' σ' (drS dp cp a b c :: tlF (.t (.int step)) (.t (.int (1 + r2))) (.t (.int ex)) (Sl.w p7 (.lst (ns.map .int))) .any .any .any .any .any .any .any .any), ⟨_, _, _, [1 + r4], la4, names_start (by omega) (by omega), R4'.same e5⟩, fun m σ' H' hm ⟨a, b, c, ns, la, hn, R⟩ => ?_, fun σ5 H6 ⟨a5, b5, c5, ns, la5, hn, R5⟩ => ?_⟩)
  · have R' := R.set_t 8 (.int (1 + (m : Int)))
    have hlt : m < ns.length := by rw [hn.1]; omega
    have hm7 : m ≤ 10 := by omega
    refine s_appQ R' (i := 7) rfl (op_Q ((et_i (g := (· + ·)) (et_ixL (e1_w R' (i := 7) rfl) (et_i (g := (· - ·)) (et_v R' (i := 8) rfl) et_int) (d := .int ns[m]) (by rw [show (1 + (m : Int) - 1) = (m : Int) by omega]; exact CW.atI_nat (by rw [List.getElem?_map, List.getElem?_eq_getElem hlt]; rfl))) et_int) H' (.refl _) _ fun v H6 e6 t6 => ?_))
    obtain rfl := t6.i
    refine take_run (m := step) B (R'.same e6) la (et_v (R'.same e6) (i := 4) rfl) (by omega) (by omega) fun z a7 b7 c7 H7 z0 z1 la7 R7 _ => ⟨ns[m] + 1, z, rfl, rfl, app_fin R7 (i := 7) rfl (.int _) (by rw [List.length_map, hn.1]; omega) fun H8 R8 => ⟨a7, b7, c7, ns ++ [ns[m] + 1 + z], la7, names_next hn hlt z0 (by omega), (R8.forget 8).eq ?_⟩⟩
    rw [List.map_append]
    rfl
  have hnl : (ns.length : Int) = 1 + r2 + ex := by
    have := hn.1
    omega
  have hnd := names_nodup hn
  have hlo : ∀ v ∈ ns, 1 ≤ v ∧ v ≤ 999 := fun v hv => by
    have := hn.2.2 v hv
    omega
  clear hn R4' e5
  try unfold tNext
  try dsimp only
  refine sq (s_setL R5 el_nil fun p9 σ6 H7 e7 R6 => ?_)
  have R6' : Rel K (off [dp] H) H H7 σ6 (drS dp cp a5 b5 c5 :: tlF (.t (.int step)) (.t (.int (1 + r2))) (.t (.int ex)) (Sl.w p7 (.lst (ns.map .int))) .any (Sl.w p9 (.lst (([] : List Int).map .int))) .any .any .any .any .any .any) := R6.eq rfl
  clear R5 R6
  try unfold tNext
  try dsimp only
  refine sq (for_rng1 ((et_v R6' (i := 6) rfl) H7 (.refl _) _ fun v H8 e8 t8 => ?_))
  obtain rfl := t8.i
  refine s_rngV (by omega) x0 (fun m σ' H' => ∃ a b c nm hs, -1 ≤ a ∧ TakenOk ns nm hs ∧ nm.length + m = ns.length ∧ hs.length = m ∧ Rel K (off [dp] H) H H' σ' (drS dp cp a b c :: tlF (.t (.int step)) (.t (.int (1 + r2))) (.t (.int ex)) (Sl.w p7 (.lst (nm.map .int))) .any (Sl.w p9 (.lst (hs.map .int))) .any .any .any .any .any .any)) ⟨_, _, _, ns, [], la5, (by unfold TakenOk; rw [List.append_nil]), rfl, rfl, R6'.same e8⟩ (fun m σ' H' hm ⟨a, b, c, nm, hs, la, ht, hl1, hl2, R⟩ => ?_) fun σ7 H9 ⟨a7, b7, c7, nm, hs, la7, ht, hl1, hl2, R7⟩ => ?_
  · have R' := R.set_t 8 (.int (m : Int))
    have hn0 : 0 < nm.length := by omega
    refine s_appQ R' (i := 9) rfl (bmQ R' (i := 7) rfl (take_run (m := (nm.length : Int)) B R' la (ET.eq (et_lenL (e1_w R' (i := 7) rfl)) (by rw [List.length_map])) (by omega) (by omega) fun r a8 b8 c8 H8 r0 r1 la8 R8 _ => ?_))
    obtain ⟨j, rfl⟩ : ∃ j : Nat, r = (j : Int) := ⟨r.toNat, by omega⟩
    have hj : j < nm.length := by omega
    obtain ⟨h71, h72, o7, h73, vs7, rfl, h75⟩ := R8.sl 7 _ rfl
    obtain rfl := h75.ints
    refine ⟨p7, nm.map V.int, (j : Int), j, .int nm[j], rfl, rfl, h73, by omega, by omega, by rw [seqIndex_of (by omega) (by rw [List.length_map]; omega)]; simp, by rw [List.getElem?_map, List.getElem?_eq_getElem hj]; rfl, ?_⟩
    have he : (nm.map V.int).eraseIdx j = (nm.eraseIdx j).map V.int := eraseIdx_mapV nm j
    rw [he]
    have R9 := R8.mut (i := 7) (c' := .lst ((nm.eraseIdx j).map .int)) (o' := .lst ((nm.eraseIdx j).map V.int)) rfl ⟨_, rfl, TdAll.of_ints _⟩
    refine app_fin R9 (i := 9) rfl (.int _) (by rw [List.length_map, hl2]; omega) fun H10 R10 => ⟨a8, b8, c8, nm.eraseIdx j, hs ++ [nm[j]], la8, taken_next ht hj, ?_, by rw [List.length_append, hl2]; rfl, (R10.forget 8).eq ?_⟩
    · rw [List.length_eraseIdx_of_lt hj]
      omega
    · rw [List.map_append]
      rfl
  have hperm := ht
  have hsl : hs.length ≤ 2 := by omega
  have hnml : (nm.length : Int) = 1 + r2 := by omega
  clear R6' ht
  try unfold tNext
  try dsimp only
  obtain ⟨s71, _, o7, h73, vs7, rfl, h75⟩ := R7.sl 7 _ rfl
  obtain ⟨s91, _, o9, h93, vs9, rfl, h95⟩ := R7.sl 9 _ rfl
  obtain rfl := h75.ints
  obtain rfl := h95.ints
  refine sq (s_asgQ ⟨.ref p7, s71, .ref p9, s91, p7, p9, _, _, rfl, rfl, h73, h93, sz1000 (by simp; omega), fun l hl => g_w (p := l) (c := .lst ((nm ++ hs).map .int)) R7 (same_upd hl) hl upd_same ⟨_, rfl, by rw [← List.map_append]; exact TdAll.of_ints _⟩ fun σ8 R8 => ?_⟩)
  generalize upd H9 l (.lst (nm.map V.int ++ hs.map V.int)) = H10 at R8 ⊢
  try unfold tNext
  try dsimp only
  refine sq (s_setL R8 el_nil fun p11 σ9 H11 e11 R9 => ?_)
  have R9' : Rel K (off [dp] H) H H11 σ9 (drS dp cp a7 b7 c7 :: tlF (.t (.int step)) (.t (.int (1 + r2))) (.t (.int ex)) (Sl.w p7 (.lst (nm.map .int))) .any (Sl.w p9 (.lst (hs.map .int))) (Sl.w l (.lst ((nm ++ hs).map .int))) (Sl.w p11 (.lst (([] : Rs).map dC))) .any .any .any .any) := R9.eq rfl
  clear R7 R8 R9 s71 s91 h73 h93 h75 h95
  have hel : 0 < (nm ++ hs).length ∧ (nm ++ hs).length ≤ 1000 := by
    rw [List.length_append]
    omega
  have hev : ∀ v ∈ nm ++ hs, 1 ≤ v ∧ v ≤ 999 := fun v hv => hlo v (hperm.mem_iff.mp hv)
  try unfold tNext
  try dsimp only
  refine sq (for_rng1 (take_run (m := 6 + 1) B R9' la7 (et_i (g := (· + ·)) (et_v R9' (i := 3) rfl) et_int) (by decide) (by decide) fun nr a10 b10 c10 H12 n0 n1 la10 R10 _ => s_rngV (by omega) n0 (fun m σ' H' => ∃ a b c rows, -1 ≤ a ∧ RowsOk (nm ++ hs) m rows ∧ Rel K (off [dp] H) H H' σ' (drS dp cp a b c :: tlF (.t (.int step)) (.t (.int (1 + r2))) (.t (.int ex)) (Sl.w p7 (.lst (nm.map .int))) .any (Sl.w p9 (.lst (hs.map .int))) (Sl.w l (.lst ((nm ++ hs).map .int))) (Sl.w p11 (.lst (rows.map dC))) .any .any .any .any)) ⟨_, _, _, [], la10, ⟨Nat.le_refl _, fun c hc => by cases hc⟩, R10⟩ (fun m σ' H' hm ⟨a, b, c, rows, la, hrows, R⟩ => ?_) fun σ11 H13 ⟨a11, b11, c11, rows, la11, hrows, R11⟩ => ?_))
  · skip
    have R' : Rel K (off [dp] H) H H' (σ'.set 8 (some (.int (m : Int)))) (drS dp cp a b c :: tlF (.t (.int step)) (.t (.int (1 + r2))) (.t (.int ex)) (Sl.w p7 (.lst (nm.map .int))) .any (Sl.w p9 (.lst (hs.map .int))) (Sl.w l (.lst ((nm ++ hs).map .int))) (Sl.w p11 (.lst (rows.map dC))) .any .any .any .any) := ((R.set_t 8 (.int (m : Int))).forget 8).eq rfl
    have hrl0 := hrows.1
    clear R
    refine sq (s_setL R' el_nil fun p12 σ2 H2 e2 R2 => ?_)
    try unfold tNext
    try dsimp only
    refine sq (s_asgQ (pick_run (ns := [1, 2, 3, 2, 3, 4, 5, 0]) (m := 8) B R2 la (el_lst (ds := [.int 1, .int 2, .int 3, .int 2, .int 3, .int 4, .int 5, .int 0]) (ea_t et_int (ea_t et_int (ea_t et_int (ea_t et_int (ea_t et_int (ea_t et_int (ea_t et_int (ea_t et_int ea_nil))))))))) rfl (by decide) (by decide) fun size a3 b3 c3 H3 hsz la3 R3 => g_name R3 (.int size) fun σ3 R3 => ?_))
    have hsize : 0 ≤ size ∧ size ≤ 5 := by
      simp only [List.mem_cons, List.not_mem_nil, or_false] at hsz
      rcases hsz with rfl | rfl | rfl | rfl | rfl | rfl | rfl | rfl <;> decide
    have R3' : Rel K (off [dp] H) H H3 σ3 (drS dp cp a3 b3 c3 :: tlF (.t (.int step)) (.t (.int (1 + r2))) (.t (.int ex)) (Sl.w p7 (.lst (nm.map .int))) .any (Sl.w p9 (.lst (hs.map .int))) (Sl.w l (.lst ((nm ++ hs).map .int))) (Sl.w p11 (.lst (rows.map dC))) (Sl.w p12 (.lst (([] : List Int).map .int))) (.t (.int size)) .any .any) := R3.eq rfl
    clear R2 R3
    try unfold tNext
    try dsimp only
    refine sq (join (fun σ' H' => ∃ (a b c z : Int), -1 ≤ a ∧ 0 ≤ z ∧ z ≤ 5 ∧ Rel K (off [dp] H) H H' σ' (drS dp cp a b c :: tlF (.t (.int step)) (.t (.int (1 + r2))) (.t (.int ex)) (Sl.w p7 (.lst (nm.map .int))) .any (Sl.w p9 (.lst (hs.map .int))) (Sl.w l (.lst ((nm ++ hs).map .int))) (Sl.w p11 (.lst (rows.map dC))) (Sl.w p12 (.lst (([] : List Int).map .int))) (.t (.int z)) .any .any)) (fun σ4 H4 ⟨a4, b4, c4, z, la4, z0, z1, R4⟩ => ?_) fun kj => if_and (eb_t (et_eqI (et_v R3' (i := 13) rfl) et_int)) (fun hb H4 e4 => ?_) fun hb H4 e4 => kj _ _ ⟨a3, b3, c3, size, la3, hsize.1, hsize.2, R3'.same e4⟩)
    · try unfold tNext
      try dsimp only
      refine sq (for_rng1 ((et_v R4 (i := 13) rfl) H4 (.refl _) _ fun v H5 e5 t5 => ?_))
      obtain rfl := t5.i
      refine s_rngV (by omega) z0 (fun j σ' H' => ∃ a b c row, -1 ≤ a ∧ RowOkP (nm ++ hs) j row ∧ Rel K (off [dp] H) H H' σ' (drS dp cp a b c :: tlF (.t (.int step)) (.t (.int (1 + r2))) (.t (.int ex)) (Sl.w p7 (.lst (nm.map .int))) .any (Sl.w p9 (.lst (hs.map .int))) (Sl.w l (.lst ((nm ++ hs).map .int))) (Sl.w p11 (.lst (rows.map dC))) (Sl.w p12 (.lst (row.map .int))) .any .any .any)) ⟨_, _, _, [], la4, ⟨Nat.le_refl _, List.nodup_nil, fun l hl => by cases hl⟩, ((R4.same e5).forget 13).eq rfl⟩ (fun j σ' H6 hj ⟨a6, b6, c6, row, la6, hrow, R6⟩ => ?_) fun σ6 H6 ⟨a6, b6, c6, row, la6, hrow, R6⟩ => ?_
      · have R6' : Rel K (off [dp] H) H H6 (σ'.set 14 (some (.int (j : Int)))) (drS dp cp a6 b6 c6 :: tlF (.t (.int step)) (.t (.int (1 + r2))) (.t (.int ex)) (Sl.w p7 (.lst (nm.map .int))) .any (Sl.w p9 (.lst (hs.map .int))) (Sl.w l (.lst ((nm ++ hs).map .int))) (Sl.w p11 (.lst (rows.map dC))) (Sl.w p12 (.lst (row.map .int))) .any .any .any) := ((R6.set_t 14 (.int (j : Int))).forget 14).eq rfl
        clear R6
        refine sq (s_asgQ (op_Q (pickL_run (i := 9) B R6' la6 rfl hel.1 hel.2 fun x a7 b7 c7 H7 hx la7 R7 => pick_run (ns := [1, -1]) (m := 2) B R7 la7 (el_lst (ds := [.int 1, .int (-1)]) (ea_t et_int (ea_t (et_neg et_int) ea_nil))) rfl (by decide) (by decide) fun y a8 b8 c8 H8 hy la8 R8 => ⟨x, y, rfl, rfl, ?_, g_name R8 (.int _) fun σ8 R8 => ?_⟩)))
        · simp only [List.mem_cons, List.not_mem_nil, or_false] at hy
          rcases hy with rfl | rfl <;> exact .inr ⟨by decide, by decide⟩
        have hxe := hev x hx
        have hxy : iabs (x * y) = x := by
          simp only [List.mem_cons, List.not_mem_nil, or_false] at hy
          unfold iabs
          rcases hy with rfl | rfl
          · split <;> omega
          · split <;> omega
        have hrj := hrow.1
        try unfold tNext
        try dsimp only
        refine s_if (eb_and (eb_t (et_ninL (et_v R8 (i := 15) rfl) (e1_w R8 (i := 12) rfl))) fun _ => eb_t (et_ninL (et_neg (et_v R8 (i := 15) rfl)) (e1_w R8 (i := 12) rfl))) (fun hb H9 e9 => ?_) fun hb H9 e9 => ⟨a8, b8, c8, row, la8, ⟨by omega, hrow.2⟩, ((R8.same e9).forget 15).eq rfl⟩
        have hb' : x * y ∉ row ∧ -(x * y) ∉ row := by simpa using hb
        refine s_append (R8.same e9) (i := 12) rfl (et_v (R8.same e9) (i := 15) rfl) (by rw [List.length_map]; omega) fun H10 R10 => ⟨a8, b8, c8, row ++ [x * y], la8, row_add hrow (by rw [hxy]; exact hx) hb'.1 hb'.2, (R10.forget 15).eq ?_⟩
        rw [List.map_append (l₁ := row)]
        rfl
      · have hrow5 : RowOkP (nm ++ hs) 5 row := ⟨by have := hrow.1; omega, hrow.2⟩
        have hr9 : row.length ≤ 900 := by have := hrow5.1; omega
        try unfold tNext
        try dsimp only
        refine s_if (eb_t (et_ninLD (et_call (P := P_law_clause) (ea_cons (e1_w R6 (i := 12) rfl) ea_nil) ⟨row, rfl, hr9, rfl⟩) (e1_w R6 (i := 11) rfl) (shp_dC _).shaped (shp_rowsL rows).shaped)) (fun hb H7 e7 => ?_) fun hb H7 e7 => ⟨a6, b6, c6, rows, la6, ⟨by omega, hrows.2⟩, ((R6.same e7).forget 12).eq rfl⟩
        have R7 := R6.same e7
        refine s_append R7 (i := 11) rfl (et_call (P := P_law_clause) (ea_cons (e1_w R7 (i := 12) rfl) ea_nil) ⟨row, rfl, hr9, rfl⟩) (by rw [List.length_map]; omega) fun H8 R8 => ⟨a6, b6, c6, rows ++ [sortL row], la6, rows_add hrows hrow5, (R8.forget 12).eq ?_⟩
        rw [List.map_append (l₁ := rows)]
        rfl
    · refine if_op (take_run (m := 4) B (R3'.same e4) la3 et_int (by decide) (by decide) fun r a5 b5 c5 H5 r0 r1 la5 R5 _ => ⟨r, 0, rfl, rfl, decide (r > 0), rfl, ?_⟩)
      by_cases hq : r > 0
      · rw [decide_eq_true hq]
        refine iteT (s_set R5 et_int fun σ6 H6 e6 R6 => kj _ _ ⟨a5, b5, c5, 2, la5, by decide, by decide, R6.eq rfl⟩)
      · rw [decide_eq_false hq]
        exact iteF (kj _ _ ⟨a5, b5, c5, size, la5, hsize.1, hsize.2, R5⟩)
  have hnr : nr.toNat ≤ 6 := by omega
  have hrl : rows.length ≤ 6 := Nat.le_trans hrows.1 hnr
  try unfold tNext
  try dsimp only
  have hsp : (sortI nm ++ sortI hs).Perm (nm ++ hs) := (sortI_perm nm).append (sortI_perm hs)
  have hmp := List.mergeSort_perm rows (PySem.W.dataLe false keyRow)
  refine s_ret (d := .tuple [dC (sortI nm), dC (sortI hs), dR (rows.mergeSort (PySem.W.dataLe false keyRow))]) (et_tup (ds := [_, _, _]) (ea_t (et_tupleL (EL.e1 (el_sortedI (e1_w R11 (i := 7) rfl)))) (ea_t (et_tupleL (EL.e1 (el_sortedI (e1_w R11 (i := 9) rfl)))) (ea_t (et_tupleL (EL.e1 (el_call (ea_cons (e1_w R11 (i := 11) rfl) ea_nil) ⟨rows, rfl, by omega, fun c hc => by have := (hrows.2 c hc).2.1; omega, rfl⟩))) ea_nil)))) fun v H14 e14 t14 => ?_
  refine k v H14 (sortI nm) (sortI hs) (rows.mergeSort (PySem.W.dataLe false keyRow)) a11 b11 c11 ⟨?_, ?_, ?_, ?_, ?_, ?_, ?_⟩ (R11.base.trans e14) ((B.dr R11 la11).same e14) t14
  · rw [(sortI_perm nm).length_eq]; omega
  · rw [(sortI_perm hs).length_eq]; omega
  · exact (hsp.trans hperm).nodup_iff.mpr hnd
  · exact fun v hv => hev v (hsp.mem_iff.mp hv)
  · rw [hmp.length_eq]; exact hrl
  · exact fun c hc => (hrows.2 c (hmp.mem_iff.mp hc)).1
  · exact fun c hc l hl => hsp.mem_iff.mpr ((hrows.2 c (hmp.mem_iff.mp hc)).2.2 l hl)
end
end CW

set_option maxRecDepth 100000
set_option maxHeartbeats 4000000
/-! _law_policy, _law_sheet. -/
namespace CW
open PySem PySem.Spec PyProof.Rows L2
open C8 (Cal Met Mak pe_c pe_mk pe_mt pe_mt0)
theorem form_rb {S Hd : List Int} {R0 : Rs} (h : FormOk S Hd R0) (p3 : Bool) : RB S R0 ∧ R0.length + Wt p3 R0 ≤ 700 := by
  have hv : ∀ v ∈ varsOf R0, v ∈ S ++ Hd := fun v hv => by
    obtain ⟨c, hc, l, hl, rfl⟩ := mem_varsOf.mp hv
    exact h.inn c hc l hl
  have h7 : (varsOf R0).length ≤ 7 := by
    have := nodup_sub_len (nodup_varsOf R0) hv
    rw [List.length_append] at this
    have := h.s5
    have := h.h2
    omega
  refine ⟨⟨fun c hc l hl e => ?_, h.can, h7, ?_⟩, ?_⟩
  · have := (h.lo _ (h.inn c hc l hl)).1
    subst e
    exact absurd this (by decide)
  · refine Nat.le_trans (nodup_sub_len ((nodup_varsOf R0).filter _) fun v hm => ?_) h.h2
    obtain ⟨h1, h2⟩ := List.mem_filter.mp hm
    rcases List.mem_append.mp (hv v h1) with q | q
    · simp [q] at h2
    · exact q
  · have h1 := Wt_le p3 R0
    have h2 := pow_mono h7
    have := h.r6
    omega
section
variable {K : PySem.W.Frag} {H0 Hk H : Hp} {σ : L2.St} {Γ : List Sl} {ta : TE} {tr : TA} {dp cp : Addr} {cells : List Int} {a b c m : Int} {i : Nat} {E : XK} {Q : VK} {ds : List PyData} {p : Addr}
theorem Rel.unwipe (R : Rel K H0 Hk H (σ.set i none) Γ) (h : Γ[i]? = some .any) : Rel K H0 Hk H σ Γ := by
  refine ⟨R.base, R.keep, by have := R.len; rw [List.length_set] at this; exact this, fun j s hj => ?_, R.own⟩
  by_cases q : j = i
  · subst q
    rw [h] at hj
    rw [← Option.some.inj hj]
    trivial
  · have z := R.sl j s hj
    have e : (σ.set i none)[j]? = σ[j]? := List.getElem?_set_ne (Ne.symm q)
    cases s with
    | any => trivial
    | t d => obtain ⟨v, h1, h2⟩ := z; exact ⟨v, by rw [← e]; exact h1, h2⟩
    | v x => exact e.symm.trans z
    | w a c => exact ⟨e.symm.trans z.1, z.2⟩
    | r ds => obtain ⟨a, vs, h1, h2⟩ := z; exact ⟨a, vs, e.symm.trans h1, h2⟩
/-- xs[take(draw, n)], xs a list of ours -/
theorem pickD_run (B : Db H0 dp cp cells) (R : Rel K H0 Hk H σ (drS dp cp a b c :: Γ)) (la : -1 ≤ a) (h : Γ[i]? = some (Sl.w p (.lst ds))) (hm : (ds.length : Int) = m) (m0 : 0 < m) (m1 : m ≤ 1000)
    (k : ∀ v d a' b' c' H', d ∈ ds → Td K H' v d → -1 ≤ a' → Rel K H0 Hk H' σ (drS dp cp a' b' c' :: Γ) → Q v H') : tOp (rIxL K) (tVar (i + 1)) (tCall spLk [] E (tCons (tVar 0) (tCons (tC (.int m)) tNil))) σ H Q := by
  have h' : (drS dp cp a b c :: Γ)[i + 1]? = some (Sl.w p (.lst ds)) := h
  obtain ⟨s1, _, o, s3, vs, rfl, s5⟩ := R.sl (i + 1) _ h'
  have pne : p ≠ dp := R.own (i + 1) 0 p dp _ _ (by omega) h' rfl
  refine ⟨.ref p, s1, take_run B R la et_int m0 m1 fun r a' b' c' H3 h0 h1 la' R3 pres => ?_⟩
  obtain ⟨j, rfl⟩ : ∃ j : Nat, r = (j : Int) := ⟨r.toNat, by omega⟩
  have hj : j < ds.length := by omega
  obtain ⟨_, _, o3, g3, ws, rfl, g5⟩ := R3.sl (i + 1) _ h
  obtain ⟨v, hv, tv⟩ := g5.get (i := j) (List.getElem?_eq_getElem hj)
  exact ⟨p, ws, (j : Int), v, rfl, rfl, SqL.of g3, L2.atI_nat hv, k v _ a' b' c' H3 (List.getElem_mem hj) tv la' R3⟩
theorem tup_c (h : ta σ H fun x H1 => tr σ H1 fun xs H2 => (x :: xs).length ≤ sizeLine ∧ ∀ p, H2 p = none → Q (.ref p) (upd H2 p (.tup (x :: xs)))) : tTup (tCons ta tr) σ H Q := h
theorem s_retQ {nx bk ct : L2.St → Hp → Prop} (h : ta σ H Q) : tRet ta ⟨nx, Q, bk, ct⟩ σ H := h
end
def PRow (m : Nat) (row : List Int) : Prop := row.length ≤ m ∧ row.Nodup ∧ ∀ v ∈ row, 1 ≤ v ∧ v ≤ 999
section
variable {P : Program} {w : World} {K : PySem.W.Frag} {mg : Str → Option Value} {base : Heap}
/-- _law_policy(draw, formula) -/
def spLp (K : PySem.W.Frag) : Sp := fun vs H Q _ => ∃ dp cp cells a b c v2 S Hd R0, vs = [.ref dp, v2] ∧ Td K H v2 (dF S Hd R0) ∧ FormOk S Hd R0 ∧ Dr H dp cp cells a b c ∧ ∀ v H' p a' b' c', Od.ok (Pol.od p) → Same (off [dp] H) H' → Dr H' dp cp cells a' b' c' → Td K H' v (dP p) → Q v H'
abbrev Nlaw_policy : List Str := ["_law_draw_here", "_law_formula_here", "_law_every", "_law_row", "_law_k", "_law_variable", "_law_orders", "_law_flags"]
theorem sc_law_policy : FnScope Nlaw_policy ["_law_draw_here", "_law_formula_here"] (defScope sQlaw_policy) := ⟨rfl, rfl, rfl, by decide +kernel, rfl, by decide +kernel, by decide +kernel⟩
theorem cal_law_policy (T : Tx K mg base) : Cal P w K mg base 2 "_law_policy" (spLp K) [] := by
  have sc := sc_law_policy
  refine cal_of T 74 59 rfl rfl sc (fun _ _ _ _ _ _ us hl => match us, hl with | [_, _], _ => rfl) (fun vs H Q E h => ?_) fun cdv A outer s H vs Q E hr h => ?_
  · obtain ⟨_, _, _, _, _, _, _, _, _, _, rfl, _⟩ := h; rfl
  refine ⟨_, (pss_cons (ps_set (i := 2) sc.nd rfl (by first | exact Or.inl rfl | exact Or.inr rfl) (pe_op op_cat (pe_callTy call_list_of (by rfl) T.f_list (by decide +kernel) (pa_cons (pe_op op_catA (pe_ix ix_tup (pv 1) pe_int (fun _ _ => rfl)) (pe_ix ix_tup (pv 1) pe_int (fun _ _ => rfl))) pa_nil)) (pe_lst (pa_cons pe_int pa_nil))))
    (pss_cons (ps_set (i := 3) sc.nd rfl (by first | exact Or.inl rfl | exact Or.inr rfl) (pe_lst pa_nil))
    (pss_cons (ps_for PassesOwn.never rfl (pi_range1 rfl T.f_range (pa_cons (pe_c (cal_law_take T) hr (by decide) rfl (pa_cons (pv 0) (pa_cons pe_int pa_nil))) pa_nil)) (pg_name (i := 4) sc.nd rfl (by first | exact Or.inl rfl | exact Or.inr rfl))
      (pss_cons (ps_set (i := 5) sc.nd rfl (by first | exact Or.inl rfl | exact Or.inr rfl) (pe_ix ix_list (pv 2) (pe_c (cal_law_take T) hr (by decide) rfl (pa_cons (pv 0) (pa_cons (pe_callB call_len_seq (by rfl) T.f_len (by decide +kernel) (pa_cons (pv 2) pa_nil)) pa_nil))) (fun _ _ => rfl)))
      (pss_one (ps_if (pt_cmpR op_notIn_seq (pv 5) (pv 3) (by rfl))
        (pss_one (ps_expr (pe_bm PySem.F.plainAttrs_list PySem.F.slot_list_append PySem.F.type_list_append mt_append (pv 3) (pa_cons (pv 5) pa_nil))))
        pss_nil))))
    (pss_cons (ps_set (i := 6) sc.nd rfl (by first | exact Or.inl rfl | exact Or.inr rfl) (pe_lst (pa_cons (pe_tup (pa_cons pe_str pa_nil)) (pa_cons (pe_tup (pa_cons pe_str pa_nil)) (pa_cons (pe_tup (pa_cons pe_str (pa_cons (pe_callTy call_tuple_of (by rfl) T.f_tuple (by decide +kernel) (pa_cons (pv 3) pa_nil)) pa_nil))) pa_nil)))))
    (pss_cons (ps_setLc (i := 7) (own := [("_law_k", 4)]) rfl sc.nd rfl rfl (sw_true rfl rfl rfl (by decide +kernel)) (pi_range1 rfl T.f_range (pa_cons pe_int pa_nil)) (blkOk_by (own := [("_law_k", 4)]) (N := Nlaw_policy) (sc := defScope sQlaw_policy) (by decide +kernel)) (fun _ _ _ _ _ => (pg_name (i := 4) sc.nd rfl (Or.inl rfl))) (fun _ _ _ _ _ => pts_nil) (fun _ _ _ _ _ => (pe_cmpR op_eq (pe_c (cal_law_take T) hr (by decide) rfl (pa_cons (pv 0) (pa_cons pe_int pa_nil))) pe_int (nomark _))))
    (pss_one (ps_ret (pe_tup (pa_cons (pe_ix ix_list (pv 6) (pe_c (cal_law_take T) hr (by decide) rfl (pa_cons (pv 0) (pa_cons pe_int pa_nil))) (fun _ _ => rfl)) (pa_cons (pe_ix ix_list (pv 7) pe_int (fun _ _ => rfl)) (pa_cons (pe_ix ix_list (pv 7) pe_int (fun _ _ => rfl)) (pa_cons (pe_ix ix_list (pv 7) pe_int (fun _ _ => rfl)) (pa_cons (pe_ix ix_list (pv 7) pe_int (fun _ _ => rfl)) pa_nil))))))))))))), ?_⟩
  obtain ⟨dp, cp, cells, a, b, c, w2, S, Hd, R0, rfl, t2, hF, hd, k⟩ := h
  have B : Db (off [dp] H) dp cp cells := ⟨by rw [off_out (by simpa using hd.ne.symm)]; exact hd.c, hd.ne, hd.len⟩
  have R00 := rel_off [dp] (K := K) (H := H) (N := Nlaw_policy) (vs := [.ref dp, w2]) (as := [.v (.ref dp), .t (dF S Hd R0)]) (.cons rfl (.cons t2 .nil)) (by simp) (by simp)
  have R1 : Rel K (off [dp] H) H H (start Nlaw_policy [.ref dp, w2]) (drS dp cp a b c :: [.t (dF S Hd R0), .any, .any, .any, .any, .any, .any]) := (R00.own1 (i := 0) (ct := .raw (.lst (drL cp a b c)) []) rfl (off_in (by simp)) hd.d ⟨rfl, (fun ys z => by cases z), fun t ht => by cases ht⟩ (fun j q c' z => by
    rcases j with _ | _ | _ | _ | _ | _ | _ | _ | j <;> simp [slots, slOf] at z)).eq rfl
  clear R00
  have la := hd.lo
  have hS := hF.s5
  have hH := hF.h2
  refine sq (s_setL R1 (el_cat (el_listT (et_catT (ds := S.map .int) (es := Hd.map .int) (et_ixT (et_v R1 (i := 1) rfl) et_int (d := dC S) rfl) (et_ixT (et_v R1 (i := 1) rfl) et_int (d := dC Hd) rfl) (by simp; omega))) (el_lst (ds := [.int 998]) (ea_t et_int ea_nil)) (by simp; omega)) fun p2 σ2 H2 e2 R2 => ?_)
  try unfold tNext
  try dsimp only
  refine sq (s_setL R2 el_nil fun p3 σ3 H3 e3 R3 => ?_)
  have R3' : Rel K (off [dp] H) H H3 σ3 (drS dp cp a b c :: [.t (dF S Hd R0), Sl.w p2 (.lst ((S ++ Hd ++ [998]).map .int)), Sl.w p3 (.lst (([] : List Int).map .int)), .any, .any, .any, .any]) := R3.eq (by rw [List.map_append, List.map_append]; rfl)
  clear R1 R2 R3
  have hev : ∀ v ∈ S ++ Hd ++ [998], 1 ≤ v ∧ v ≤ 999 := fun v hv => by
    rcases List.mem_append.mp hv with q | q
    · exact hF.lo v q
    · obtain rfl := List.mem_singleton.mp q
      decide
  have hel : 0 < (S ++ Hd ++ [998]).length ∧ (S ++ Hd ++ [998]).length ≤ 1000 := by simp; omega
  generalize S ++ Hd ++ [998] = every at R3' hev hel
  try unfold tNext
  try dsimp only
  refine sq (for_rng1 (take_run (m := 6) B R3' la et_int (by decide) (by decide) fun nr a4 b4 c4 H4 n0 n1 la4 R4 _ => s_rngV (by omega) n0 (fun m σ' H' => ∃ a b c row, -1 ≤ a ∧ PRow m row ∧ Rel K (off [dp] H) H H' σ' (drS dp cp a b c :: [.t (dF S Hd R0), Sl.w p2 (.lst (every.map .int)), Sl.w p3 (.lst (row.map .int)), .any, .any, .any, .any])) ⟨_, _, _, [], la4, ⟨Nat.le_refl _, List.nodup_nil, fun v hv => by cases hv⟩, R4⟩ (fun m σ' H' hm ⟨a, b, c, row, la, hrow, R⟩ => ?_) fun σ5 H5 ⟨a5, b5, c5, row, la5, hrow, R5⟩ => ?_))
  · have R' : Rel K (off [dp] H) H H' (σ'.set 4 (some (.int (m : Int)))) (drS dp cp a b c :: [.t (dF S Hd R0), Sl.w p2 (.lst (every.map .int)), Sl.w p3 (.lst (row.map .int)), .any, .any, .any, .any]) := ((R.set_t 4 (.int (m : Int))).forget 4).eq rfl
    have hr1 := hrow.1
    refine sq (s_asgQ (pickL_run (i := 1) B R' la rfl hel.1 hel.2 fun x a6 b6 c6 H6 hx la6 R6 => g_name R6 (.int x) fun σ6 R6 => ?_))
    try unfold tNext
    try dsimp only
    refine s_if (eb_t (et_ninL (et_v R6 (i := 5) rfl) (e1_w R6 (i := 3) rfl))) (fun hb H7 e7 => ?_) fun hb H7 e7 => ⟨a6, b6, c6, row, la6, ⟨by omega, hrow.2⟩, ((R6.same e7).forget 5).eq rfl⟩
    have hb' : x ∉ row := by simpa using hb
    refine s_append (R6.same e7) (i := 3) rfl (et_v (R6.same e7) (i := 5) rfl) (by rw [List.length_map]; omega) fun H8 R8 => ⟨a6, b6, c6, row ++ [x], la6, ⟨by rw [List.length_append]; simp; omega, ?_, fun v hv => ?_⟩, (R8.forget 5).eq (by rw [List.map_append (l₁ := row)]; rfl)⟩
    · rw [List.nodup_append]
      refine ⟨hrow.2.1, by simp, fun u hu v hv e => ?_⟩
      obtain rfl := List.mem_singleton.mp hv
      subst e
      exact hb' hu
    · rcases List.mem_append.mp hv with hv | hv
      · exact hrow.2.2 v hv
      · obtain rfl := List.mem_singleton.mp hv
        exact hev v hx
  have hrowok : RowOk row := ⟨hrow.2.1, by have := hrow.1; omega, hrow.2.2⟩
  try unfold tNext
  try dsimp only
  refine sq (s_setL R5 (el_lst (ds := [dO .least, dO .most, dO (.row row)]) (ea_t (et_tup (ds := [.str "least"]) (ea_t et_str ea_nil)) (ea_t (et_tup (ds := [.str "most"]) (ea_t et_str ea_nil)) (ea_t (et_tup (ds := [.str "row", dC row]) (ea_t et_str (ea_t (et_tupleL (e1_w R5 (i := 3) rfl)) ea_nil))) ea_nil)))) fun p6 σ6 H6 e6 R6 => ?_)
  have R6' : Rel K (off [dp] H) H H6 σ6 (drS dp cp a5 b5 c5 :: [.t (dF S Hd R0), Sl.w p2 (.lst (every.map .int)), Sl.w p3 (.lst (row.map .int)), .any, .any, Sl.w p6 (.lst [dO .least, dO .most, dO (.row row)]), .any]) := R6.eq rfl
  clear R6
  try unfold tNext
  try dsimp only
  refine sq (s_asgQ ⟨4, rfl, by decide, by decide, fun D hD => ?_⟩)
  have hD0 : off [dp] H D = none := R6'.base.free hD
  have dpD : D ≠ dp := fun e => by
    have := (raw_at (i := 0) R6' rfl).2
    rw [← e, hD] at this; cases this
  have own : ∀ (i : Nat) (q : Addr) (c : Ct), ([drS dp cp a5 b5 c5, .t (dF S Hd R0), Sl.w p2 (.lst (every.map .int)), Sl.w p3 (.lst (row.map .int)), .any, .any, Sl.w p6 (.lst [dO .least, dO .most, dO (.row row)]), .any] : List Sl)[i]? = some (Sl.w q c) → q ≠ D := fun i q c hq e => by
    obtain ⟨_, _, o, z, _⟩ := R6'.sl i _ hq
    rw [e, hD] at z; cases z
  refine lc_range (fun n H' => ∃ a b c bs, -1 ≤ a ∧ bs.length = n ∧ H' D = some (.lst (bs.map V.bl)) ∧ Rel K (off [dp] H) H H' (wipe σ6 [4]) (drS dp cp a b c :: [.t (dF S Hd R0), Sl.w p2 (.lst (every.map .int)), Sl.w p3 (.lst (row.map .int)), .any, .any, Sl.w p6 (.lst [dO .least, dO .most, dO (.row row)]), .any])) ⟨_, _, _, [], la5, rfl, upd_same, ((R6'.same (same_upd hD)).any 4 none).eq rfl⟩ (fun n H7 hn ⟨a7, b7, c7, bs, la7, hbs, hD7, R7⟩ => ?_) fun H7 ⟨a7, b7, c7, bs, la7, hbs, hD7, R7⟩ => ?_
  · dsimp only [List.map]
    show wipe ((wipe σ6 [4]).set 4 (some (.int (0 + (n : Int))))) [4] = wipe σ6 [4] ∧ _
    have R8 := R7.any 4 (some (.int (0 + (n : Int))))
    have ew : (wipe σ6 [4]).set 4 (some (V.int (0 + (n : Int)))) = σ6.set 4 (some (V.int (0 + (n : Int)))) := wipe1 σ6 4 (some (V.int (0 + (n : Int))))
    rw [ew] at R8 ⊢
    refine ⟨wipe2 _ _ _, ?_⟩
    unfold tYes
    refine iteT ?_
    have R8' : Rel K (off [dp] H) H H7 (σ6.set 4 (some (V.int (0 + (n : Int))))) (drS dp cp a7 b7 c7 :: [.t (dF S Hd R0), Sl.w p2 (.lst (every.map .int)), Sl.w p3 (.lst (row.map .int)), .any, .any, Sl.w p6 (.lst [dO .least, dO .most, dO (.row row)]), .any]) := R8.eq rfl
    clear R8 R7
    refine op_Q (take_run (m := 2) B R8' la7 et_int (by decide) (by decide) fun r a8 b8 c8 H8 r0 r1 la8 R9 pres => ⟨rfl, ?_⟩)
    have hD8 := pres D _ hD7 dpD
    have R10 := (R9.any 4 none).other (q := D) (o := .lst (bs.map V.bl ++ [.bl (decide (V.int r = V.int 1))])) hD0 (lst_nt hD8) (fun i q c hq => by
      rcases i with _ | _ | _ | _ | _ | _ | _ | _ | i
      · exact dpD.symm ∘ fun e => by cases hq; exact e
      · cases hq
      · exact own 2 q c hq
      · exact own 3 q c hq
      · cases hq
      · cases hq
      · exact own 6 q c hq
      · cases hq
      · cases hq)
    rw [List.set_set] at R10
    exact ⟨bs.map V.bl, hD8, by rw [List.length_map, hbs]; exact Nat.lt_of_lt_of_le (show n < 4 from hn) (by decide), a8, b8, c8, bs ++ [decide (V.int r = V.int 1)], la8, by rw [List.length_append, hbs]; rfl, by rw [upd_same, List.map_append]; rfl, R10.eq rfl⟩
  · have hbs4 : bs.length = 4 := hbs
    obtain ⟨y0, y1, y2, y3, rfl⟩ : ∃ y0 y1 y2 y3, bs = [y0, y1, y2, y3] := by
      match bs, hbs4 with
      | [y0, y1, y2, y3], _ => exact ⟨_, _, _, _, rfl⟩
    have R8 := (R7.unwipe (i := 4) rfl).set_v 7 (.ref D)
    have R9 : Rel K (off [dp] H) H H7 (σ6.set 7 (some (.ref D))) (drS dp cp a7 b7 c7 :: [.t (dF S Hd R0), Sl.w p2 (.lst (every.map .int)), Sl.w p3 (.lst (row.map .int)), .any, .any, Sl.w p6 (.lst [dO .least, dO .most, dO (.row row)]), Sl.w D (.lst [.bool y0, .bool y1, .bool y2, .bool y3])]) := (R8.own1 (i := 7) (ct := .lst [.bool y0, .bool y1, .bool y2, .bool y3]) (R8.sl 7 _ rfl) hD0 hD7 ⟨_, rfl, .cons (.bl _) (.cons (.bl _) (.cons (.bl _) (.cons (.bl _) .nil)))⟩ (fun i q c hq => by
      rcases i with _ | _ | _ | _ | _ | _ | _ | _ | i
      · exact dpD.symm ∘ fun e => by cases hq; exact e
      · cases hq
      · exact own 2 q c hq
      · exact own 3 q c hq
      · cases hq
      · cases hq
      · exact own 6 q c hq
      · cases hq
      · cases hq)).eq rfl
    clear R8 R7
    try unfold tNext
    try dsimp only
    refine s_retQ (tup_c (pickD_run (i := 5) (m := 3) B R9 la7 rfl rfl (by decide) (by decide) fun v0 d0 a10 b10 c10 H10 hd0 t0 la10 R10 => ?_))
    obtain ⟨od, rfl, hod⟩ : ∃ od : Od, d0 = dO od ∧ od.ok := by
      simp only [List.mem_cons, List.not_mem_nil, or_false] at hd0
      rcases hd0 with rfl | rfl | rfl
      · exact ⟨.least, rfl, trivial⟩
      · exact ⟨.most, rfl, trivial⟩
      · exact ⟨.row row, rfl, hrowok⟩
    refine (ea_t (et_ixL (e1_w R10 (i := 7) rfl) (et_int (n := 0)) (d := .bool y0) rfl) (ea_t (et_ixL (e1_w R10 (i := 7) rfl) (et_int (n := 1)) (d := .bool y1) rfl) (ea_t (et_ixL (e1_w R10 (i := 7) rfl) (et_int (n := 2)) (d := .bool y2) rfl) (ea_t (et_ixL (e1_w R10 (i := 7) rfl) (et_int (n := 3)) (d := .bool y3) rfl) ea_nil)))) H10 (.refl _) _ fun xs H11 e11 t11 => ?_
    have ta := ars_ts (ds := [.bool y0, .bool y1, .bool y2, .bool y3]) t11
    refine ⟨by rw [List.length_cons, ta.length]; exact sz1000 (by simp), fun q hq => ?_⟩
    have e12 := same_upd (o := .tup (v0 :: xs)) hq
    exact k (.ref q) _ ⟨od, y0, y1, y2, y3⟩ a10 b10 c10 hod ((R10.base.trans e11).trans e12) (((B.dr R10 la10).same e11).same e12) (.tup (.inl upd_same) (.cons ((t0.same e11).same e12) (ta.same e12)))
/-- _law_sheet(draw, formula) -/
def spLs (K : PySem.W.Frag) : Sp := fun vs H Q _ => ∃ dp cp cells a b c v2 S Hd R0, vs = [.ref dp, v2] ∧ Td K H v2 (dF S Hd R0) ∧ FormOk S Hd R0 ∧ Dr H dp cp cells a b c ∧ ∀ v H' nodes p3 a' b' c', Same (off [dp] H) H' → Dr H' dp cp cells a' b' c' → Td K H' v (dSh S Hd R0 nodes) → SheetOk S p3 nodes → (∃ pre r, nodes = pre ++ [(R0, r)]) → nodes.length ≤ 700 → Q v H'
abbrev Nlaw_sheet : List Str := ["_law_draw_here", "_law_formula_here"]
theorem sc_law_sheet : FnScope Nlaw_sheet ["_law_draw_here", "_law_formula_here"] (defScope sQlaw_sheet) := ⟨rfl, rfl, rfl, by decide +kernel, rfl, by decide +kernel, by decide +kernel⟩
theorem cal_law_sheet (T : Tx K mg base) : Cal P w K mg base 14 "_law_sheet" (spLs K) [] := by
  have sc := sc_law_sheet
  refine cal_of T 75 60 rfl rfl sc (fun _ _ _ _ _ _ us hl => match us, hl with | [_, _], _ => rfl) (fun vs H Q E h => ?_) fun cdv A outer s H vs Q E hr h => ?_
  · obtain ⟨_, _, _, _, _, _, _, _, _, _, rfl, _⟩ := h; rfl
  refine ⟨_, (pss_one (ps_ret (pe_c (cal_compile_sheet T) hr (by decide) rfl (pa_cons (pv 1) (pa_cons (pe_c (cal_law_policy T) hr (by decide) rfl (pa_cons (pv 0) (pa_cons (pv 1) pa_nil))) pa_nil))))), ?_⟩
  obtain ⟨dp, cp, cells, a, b, c, w2, S, Hd, R0, rfl, t2, hF, hd, k⟩ := h
  refine s_retQ ⟨w2, rfl, .ref dp, rfl, w2, rfl, dp, cp, cells, a, b, c, w2, S, Hd, R0, rfl, t2, hF, hd, fun v H1 p a1 b1 c1 ho e1 hd1 t1 => ?_⟩
  obtain ⟨g1, g2⟩ := form_rb hF p.p3
  have kp : Keep H H1 := fun x xs hx => e1 x _ (by
    rw [off_out (by simp; intro e; subst e; rw [hd.d] at hx; cases hx)]
    exact hx)
  exact ⟨w2, v, S, Hd, R0, p, rfl, t2.k kp, t1, ho, g1, g2, fun v' H2 nodes e2 t3 hs hl hn => k v' H2 nodes p.p3 a1 b1 c1 (e1.trans e2) (hd1.same e2) t3 hs hl hn⟩
end
end CW

set_option maxRecDepth 100000
set_option maxHeartbeats 4000000
/-! law. -/
namespace CW
open PySem PySem.Spec PyProof.Rows L2 GenW
open C8 (Cal Met Mak pe_c pe_mk pe_mt pe_mt0)
/-- what the sheet of a formula answers -/
structure LawM (S Hd : List Int) (R0 : Rs) (ns : List Node) : Prop where
  sh : ShOk ns
  bd : Bd S ns
  cnt : countW S ns [] = ((modelsL S Hd R0).length : Int)
  mods : modelsW S ns = modelsL S Hd R0
  at_ : ∀ k : Int, 0 ≤ k → k < ((modelsL S Hd R0).length : Int) → (modelsL S Hd R0)[k.toNat]? = some (atW S ns k)
  num : ∀ f ∈ fillsW S, numberW S ns f = if (modelsL S Hd R0).contains f then ((modelsL S Hd R0).idxOf f : Int) else -1
section
variable {K : PySem.W.Frag} {H0 Hk H H' : Hp} {σ : L2.St} {Γ : List Sl} {ta tb te : TE} {tr : TA} {ds es : List PyData} {D : Rs} {f : Cl} {i j : Nat} {p : Addr} {Q : VK} {Qs : List V → Hp → Prop}
theorem lst_c (h : te σ H fun x H1 => tr σ H1 fun xs H2 => (x :: xs).length ≤ sizeLine ∧ ∀ p, H2 p = none → Q (.ref p) (upd H2 p (.lst (x :: xs)))) : tLst (tCons te tr) σ H Q := h
theorem cons_Q (h : te σ H fun x H1 => tr σ H1 fun xs H2 => Qs (x :: xs) H2) : tCons te tr σ H Qs := h
theorem s_callS {sp : Sp} {Es : L2.St → XK} {g : TG} {De : Ends} (h : tr σ H fun vs H1 => sp vs H1 (fun v H2 => g v σ H2 De.nx) (Es σ)) : tAsg (tCallS sp Es tr) g De σ H := h
theorem et_neLL (ha : EL K ta σ H ds) (hb : E1 K tb σ H (.l es)) (h1 : SeqAt.shaped (.list ds) = true) (h2 : SeqAt.shaped (.list es) = true) : ET K (tOp (rNeD K) ta tb) σ H (.bool (!PyData.eqv (.list ds) (.list es))) := fun H1 q Q k =>
  ha H1 q _ fun p vs H2 hp e2 hh tt => hb H2 (q.trans e2) _ fun v H3 e3 h3 => by
    obtain ⟨p', us, rfl, hs, tt'⟩ := h3
    exact ⟨.list ds, .list es, dpl (SqL.of (e3 _ _ hh)) (tt.same e3), dpl hs tt', h1, h2, k _ H3 (e2.trans e3) (.bl _)⟩
theorem eqv_lR (xs ys : Rs) : PyData.eqv (.list (xs.map dC)) (.list (ys.map dC)) = decide (xs = ys) := by
  rw [PyData.eqv]
  exact eqvAll_map eqv_dC xs ys
theorem any_eqv (D : Rs) (f : Cl) : ((D.map dC).any fun z => PyData.eqv z (dC f)) = D.contains f := by
  rw [List.any_map]
  induction D with
  | nil => rfl
  | cons d D ih =>
    rw [List.any_cons, List.contains_cons, ih]
    congr 1
    show PyData.eqv (dC d) (dC f) = _
    rw [eqv_dC]
    by_cases q : d = f
    · subst q; simp
    · have : ¬ f = d := fun e => q e.symm
      simp [q, this]
/-- xs.index(x), x in xs -/
theorem et_index (R : Rel K H0 Hk H σ Γ) (hi : Γ[i]? = some (Sl.w p (.lst (D.map dC)))) (hj : Γ[j]? = some (.t (dC f))) (hf : f ∈ D) : ET K (tBM K "list" (rIndexD K) (tVar i) (tCons (tVar j) tNil)) σ H (.int (D.idxOf f : Nat)) := fun H1 e Q k => by
  have R1 := R.same e
  obtain ⟨h1, _, o, h3, vs, rfl, h5⟩ := R1.sl i _ hi
  obtain ⟨v, g1, g2⟩ := R1.sl j _ hj
  have hl : D.idxOf f < D.length := List.idxOf_lt_length_iff.mpr hf
  refine ⟨.ref p, h1, .inl ⟨rfl, _, SqL.of h3⟩, v, g1, p, v, dC f, D.map dC, D.idxOf f, dC f, rfl, rfl, dpl (SqL.of h3) h5, Td.dp _ _ g2, (shp_rowsL D).shaped, (shp_dC f).shaped, ?_, ?_, fun m z' hm hz => ?_, k _ H1 (.refl _) (.int _)⟩
  · rw [List.getElem?_map, List.getElem?_eq_getElem hl, List.getElem_idxOf hl]
    rfl
  · rw [eqv_dC]; simp
  · have hml : m < D.length := by omega
    rw [List.getElem?_map, List.getElem?_eq_getElem hml] at hz
    obtain rfl := Option.some.inj hz
    show PyData.eqv (dC D[m]) (dC f) = false
    rw [eqv_dC]
    have := List.not_of_lt_findIdx (xs := D) (p := fun z => z == f) hm
    simpa using this
end
section
variable {P : Program} {w : World} {K : PySem.W.Frag} {mg : Str → Option Value} {base : Heap}
def spLaw (K : PySem.W.Frag) : Sp := fun vs H Q _ => ∃ (a : Addr) (ns : List Int), vs = [.ref a] ∧ ns.length ≤ 63 ∧ SqL K H a (ns.map V.int) ∧ ∀ H', Q (.bl true) H'
abbrev Nlaw : List Str := ["_law_script", "_law_draw_here", "_law_formula_here", "_law_sheet_here", "_law_due", "_law_j", "_law_k", "_law_answer", "_law_filling", "_law_number"]
theorem sc_law : FnScope Nlaw ["_law_script"] (defScope sQlaw) := ⟨rfl, rfl, rfl, by decide +kernel, rfl, by decide +kernel, by decide +kernel⟩
theorem ok_law (T : Tx K mg base) (hM : ∀ S Hd R0 ns p3, FormOk S Hd R0 → SheetOk S p3 ns → (∃ pre r, ns = pre ++ [(R0, r)]) → ns.length ≤ 700 → LawM S Hd R0 ns) {fd : FuncData} (F : FunD K "law" "law" (defArgs sQlaw) (defBody sQlaw) (defScope sQlaw) [] [] (He.ga K "law") fd) : FnOk P w K mg base CX0 17 (He.ga K "law") fd ["_law_script"] (spLaw K) := by
  have sc := sc_law
  obtain ⟨fm, fdm, psm, Fm, gm, km, bm⟩ := (xcal_model_at (P := P) (w := w) T).ex
  obtain ⟨fg, fdg, psg, Fg, gg, kg, bg⟩ := (gcal_models (P := P) (w := w) T).ex
  refine F.ok (CX := CX0) (k := 16) sc (fun vs H Q E h => ?_) (fun cdv A outer s H vs Q E hr h => ?_)
  · obtain ⟨_, _, rfl, _⟩ := h; rfl
  suffices ∃ t, PSs (cxOf CX0 P w K mg base Nlaw "law" (defScope sQlaw) (He.ga K "law") cdv A outer s H E).nox (defBody sQlaw) t ∧ t { nx := fun _ H' => Q .non H', rt := Q } (start Nlaw vs) H by
    obtain ⟨t, q1, q2⟩ := this
    exact ⟨t, q1.nox, q2⟩
  refine ⟨_, (pss_cons (ps_set (i := 1) sc.nd rfl (by first | exact Or.inl rfl | exact Or.inr rfl) (pe_c (cal_law_draw T) hr (by decide) rfl (pa_cons (pv 0) pa_nil)))
    (pss_cons (ps_set (i := 2) sc.nd rfl (by first | exact Or.inl rfl | exact Or.inr rfl) (pe_c (cal_law_formula T) hr (by decide) rfl (pa_cons (pv 1) (pa_cons pe_int (pa_cons pe_int (pa_cons pe_int pa_nil))))))
    (pss_cons (ps_set (i := 3) sc.nd rfl (by first | exact Or.inl rfl | exact Or.inr rfl) (pe_c (cal_law_sheet T) hr (by decide) rfl (pa_cons (pv 1) (pa_cons (pv 2) pa_nil))))
    (pss_cons (ps_set (i := 4) sc.nd rfl (by first | exact Or.inl rfl | exact Or.inr rfl) (pe_c (cal_law_models T) hr (by decide) rfl (pa_cons (pv 2) pa_nil)))
    (pss_cons (ps_if (PW.pt (pw_or (pt_cmpR op_ne (pe_c (cal_model_count T) hr (by decide) rfl (pa_cons (pv 3) pa_nil)) (pe_callB call_len_seq (by rfl) T.f_len (by decide +kernel) (pa_cons (pv 4) pa_nil)) (nomark _)) (pw_or1 (pt_cmpR (op_neD (u64 hr)) (pe_listG (pgen_call (E := E0) Fg (hr.mono (by decide)) rfl gg kg bg .nil (pa_cons (pv 3) pa_nil)) L2.passL (fun _ _ _ z => z.elim) (hr.mono (by decide)) rfl T.f_list (by decide +kernel)) (pv 4) (nomark _)))))
      (pss_one (ps_ret pe_bl))
      pss_nil)
    (pss_cons (ps_for PassesOwn.never rfl (pi_range1 rfl T.f_range (pa_cons pe_int pa_nil)) (pg_name (i := 5) sc.nd rfl (by first | exact Or.inl rfl | exact Or.inr rfl))
      (pss_cons (ps_set (i := 6) sc.nd rfl (by first | exact Or.inl rfl | exact Or.inr rfl) (pe_ix ix_list (pe_lst (pa_cons pe_int (pa_cons (pe_op op_sub (pe_callB call_len_seq (by rfl) T.f_len (by decide +kernel) (pa_cons (pv 4) pa_nil)) pe_int) (pa_cons (pe_callB call_len_seq (by rfl) T.f_len (by decide +kernel) (pa_cons (pv 4) pa_nil)) (pa_cons (pe_un un_neg pe_int) (pa_cons (pe_c (cal_law_take T) hr (by decide) rfl (pa_cons (pv 1) (pa_cons pe_int pa_nil))) pa_nil)))))) (pe_c (cal_law_take T) hr (by decide) rfl (pa_cons (pv 1) (pa_cons pe_int pa_nil))) (fun _ _ => rfl)))
      (pss_one (ps_try_onlyE (Wout := fun _ _ _ _ => False) (c := .ref (He.ga K "NoFilling"))
        (pss_one (ps_if (PW.pt (pw_or (pt_not (pt_chain op_le op_lt pe_int (pv 6) (pe_callB call_len_seq (by rfl) T.f_len (by decide +kernel) (pa_cons (pv 4) pa_nil)))) (pw_or1 (pt_cmpR (op_neD (u64 hr)) (pv 7) (pe_ix ix_list (pv 4) (pv 6) (fun _ _ => rfl)) (nomark _)))))
          (pss_one (ps_ret pe_bl))
          pss_nil))
        rfl rfl ⟨rfl, by decide, .inl T.g_NoFilling⟩ L2.takes0
        (fun W pn xe tk _ => pss_one (ps_set (i := 7) sc.nd rfl (by first | exact Or.inl rfl | exact Or.inr rfl) (pe_callS Fm (hr.mono (by decide)) rfl gm km bm (fun σ => passAt tk σ) (pa_cons (pv 3) (pa_cons (pv 6) pa_nil)))))
        (fun a oe cls d pn _ _ => pss_one (ps_if (pt_chain op_le op_lt pe_int (pv 6) (pe_callB (k_len K rfl) (by rfl) T.f_len (by decide +kernel) (pa_cons (pv 4) pa_nil)))
          (pss_one (ps_ret pe_bl))
          pss_nil))))))
    (pss_cons (ps_for PassesOwn.never rfl (pi_list (pe_slice sl_list (pe_c (cal_law_fillings T) hr (by decide) rfl (pa_cons (pe_ix ix_tup (pv 2) pe_int (fun _ _ => rfl)) pa_nil)) po_none (po_some pe_int))) (pg_name (i := 8) sc.nd rfl (by first | exact Or.inl rfl | exact Or.inr rfl))
      (pss_cons (ps_set (i := 9) sc.nd rfl (by first | exact Or.inl rfl | exact Or.inr rfl) (pe_ifExp (pt_cmpR (op_inD (u65 hr)) (pv 8) (pv 4) (by rfl)) (pe_bm PySem.F.plainAttrs_list PySem.F.slot_list_index PySem.F.type_list_index (mt_indexD (u65 hr)) (pv 4) (pa_cons (pv 8) pa_nil)) (pe_un un_neg pe_int)))
      (pss_one (ps_if (pt_cmpR op_ne (pe_c (cal_number_of T) hr (by decide) rfl (pa_cons (pv 3) (pa_cons (pv 8) pa_nil))) (pv 9) (nomark _))
        (pss_one (ps_ret pe_bl))
        pss_nil))))
    (pss_one (ps_ret pe_bl))))))))), ?_⟩
  obtain ⟨a0, xs, rfl, hlen, hsq, k⟩ := h
  have R0 := rel_start (K := K) (H := H) (N := Nlaw) (vs := [.ref a0]) (as := [.l (xs.map .int)]) (.cons ⟨a0, _, rfl, hsq, TdAll.of_ints xs⟩ .nil) (by simp)
  refine sq (s_asgQ ⟨.ref a0, rfl, .ref a0, xs, rfl, ⟨a0, _, rfl, hsq, TdAll.of_ints xs⟩, by omega, fun dp H1 cp cells a b c hdp hcp e1 hd1 => ?_⟩)
  have R1 : Rel K H H H1 ((start Nlaw [.ref a0]).set 1 (some (.ref dp))) [.any, .v (.ref dp), .any, .any, .any, .any, .any, .any, .any, .any] := (((R0.same e1).set_v 1 (.ref dp)).forget 0).eq rfl
  clear R0
  have s1 : ((start Nlaw [.ref a0]).set 1 (some (.ref dp)))[1]? = some (some (.ref dp)) := R1.sl 1 _ rfl
  have hF0 : ∀ a ∈ [dp], H a = none := by simpa using hdp
  try unfold tNext
  try dsimp only
  refine sq (s_asgQ ⟨.ref dp, s1, dp, cp, cells, a, b, c, rfl, hd1, fun v2 H2 S Hd R0' a2 b2 c2 hF e2 hd2 t2 => ?_⟩)
  have R2 : Rel K H H H2 (((start Nlaw [.ref a0]).set 1 (some (.ref dp))).set 2 (some v2)) [.any, .v (.ref dp), .t (dF S Hd R0'), .any, .any, .any, .any, .any, .any, .any] := ((R1.offs [dp] e2 hF0 (fun a ha => by obtain rfl := List.mem_singleton.mp ha; exact lst_nt hd1.d) (fun i a c q => by
    rcases i with _ | _ | _ | _ | _ | _ | _ | _ | _ | _ | i <;> simp at q)).set_t 2 t2).eq rfl
  obtain ⟨v2', s2, t2'⟩ := R2.sl 2 _ rfl
  have s12 := R2.sl 1 _ rfl
  try unfold tNext
  try dsimp only
  refine sq (s_asgQ ⟨.ref dp, s12, v2', s2, dp, cp, cells, a2, b2, c2, v2', S, Hd, R0', rfl, t2', hF, hd2, fun v3 H3 nodes p3 a3 b3 c3 e3 hd3 t3 hsh hla hle => ?_⟩)
  have L := hM S Hd R0' nodes p3 hF hsh hla hle
  have R3 : Rel K H H H3 ((((start Nlaw [.ref a0]).set 1 (some (.ref dp))).set 2 (some v2)).set 3 (some v3)) [.any, .v (.ref dp), .t (dF S Hd R0'), .t (dSh S Hd R0' nodes), .any, .any, .any, .any, .any, .any] := ((R2.offs [dp] e3 hF0 (fun a ha => by obtain rfl := List.mem_singleton.mp ha; exact lst_nt hd2.d) (fun i a c q => by
    rcases i with _ | _ | _ | _ | _ | _ | _ | _ | _ | _ | i <;> simp at q)).set_t 3 t3).eq rfl
  clear R1 R2
  have hrb := form_rb hF p3
  have hok := rsok_of hrb.1 (by have := hrb.2; omega)
  have hS5 := hF.s5
  have hH2 := hF.h2
  generalize hDd : modelsL S Hd R0' = D at L
  have hDl : D.length ≤ 32 := by
    rw [← hDd]
    unfold modelsL
    refine Nat.le_trans (List.length_filter_le _ _) ?_
    rw [fillsW_len]
    exact Nat.pow_le_pow_right (n := 2) (by decide) hS5
  try unfold tNext
  try dsimp only
  refine sq (s_asgQ ((el_call (P := P_law_models) (ds := D.map dC) (ea_t (et_v R3 (i := 2) rfl) ea_nil) ⟨S, Hd, R0', rfl, hok.1, by omega, by omega, by rw [hDd]⟩) H3 (.refl _) _ fun p4 vs4 H4 hp4 e4 hh4 tt4 => ?_))
  have p4d : p4 ≠ dp := fun e => by
    have := hd3.d
    rw [← e, hp4] at this
    cases this
  have hd4 := hd3.same e4
  have R4 := R3.set_w 4 (c := .lst (D.map dC)) e4 hp4 hh4 ⟨vs4, rfl, tt4⟩
  have R4' : Rel K H H H4 (((((start Nlaw [.ref a0]).set 1 (some (.ref dp))).set 2 (some v2)).set 3 (some v3)).set 4 (some (.ref p4))) [.any, .v (.ref dp), .t (dF S Hd R0'), .t (dSh S Hd R0' nodes), Sl.w p4 (.lst (D.map dC)), .any, .any, .any, .any, .any] := R4.eq rfl
  clear R3 R4
  show tSeq _ _ _ ((((((start Nlaw [.ref a0]).set 1 (some (.ref dp))).set 2 (some v2)).set 3 (some v3)).set 4 (some (.ref p4)))) H4
  generalize (((((start Nlaw [.ref a0]).set 1 (some (.ref dp))).set 2 (some v2)).set 3 (some v3)).set 4 (some (.ref p4))) = σ4 at R4' ⊢
  have mods : EL K (tListG (tCallG (spModels K) [] E0 (tCons (tVar 3) tNil))) σ4 H4 (D.map dC) := fun H5 e5 Q5 k5 => by
    obtain ⟨v5, s5, t5⟩ := (R4'.same e5).sl 3 _ rfl
    refine ⟨v5, s5, S, Hd, R0', nodes, .cons t5 .nil, L.sh, L.bd, by omega, fun out H6 e6 tt6 p hp => ?_⟩
    have m6 := L.mods
    rw [hDd] at m6
    rw [m6] at tt6
    exact k5 p out _ (e6.free hp) (e6.trans (same_upd hp)) upd_same (tt6.same (same_upd hp))
  have nwD : ∀ (i : Nat) (a : Addr) (c : Ct), ([.any, .v (.ref dp), .t (dF S Hd R0'), .t (dSh S Hd R0' nodes), Sl.w p4 (.lst (D.map dC)), .any, .any, .any, .any, .any] : List Sl)[i]? = some (Sl.w a c) → a ∉ [dp] := fun i a c q => by
    rcases i with _ | _ | _ | _ | _ | _ | _ | _ | _ | _ | i
    case succ.succ.succ.succ.zero => cases q; simpa using p4d
    all_goals (simp at q)
  have hcn := L.cnt
  rw [hDd] at hcn
  refine sq (s_if (b := false) (EB.eq (eb_or (eb_t (et_neI (et_call (ea_t (et_v R4' (i := 3) rfl) ea_nil) ⟨S, Hd, R0', nodes, rfl, L.sh, L.bd, by omega, rfl⟩) (et_lenL (e1_w R4' (i := 4) rfl)))) fun _ => eb_t (et_neLL mods (e1_w R4' (i := 4) rfl) (shp_rowsL D).shaped (shp_rowsL D).shaped)) (by rw [hcn, eqv_lR, List.length_map]; simp)) (fun hb => by cases hb) fun _ H5 e5 => ?_)
  have R5 := R4'.same e5
  have hd5 := hd4.same e5
  clear R4' mods
  try unfold tNext
  try dsimp only
  refine sq (for_rng1 (s_rngV (n := 4) (by decide) (by decide) (fun m σ' H' => ∃ a b c, Dr H' dp cp cells a b c ∧ Rel K H H H' σ' [.any, .v (.ref dp), .t (dF S Hd R0'), .t (dSh S Hd R0' nodes), Sl.w p4 (.lst (D.map dC)), .any, .any, .any, .any, .any]) ⟨_, _, _, hd5, R5⟩ (fun m σ' H6 hm ⟨a6, b6, c6, hd6, R6⟩ => ?_) fun σ6 H6 ⟨a6, b6, c6, hd6, R6⟩ => ?_))
  · have R7 : Rel K H H H6 (σ'.set 5 (some (.int (m : Int)))) [.any, .v (.ref dp), .t (dF S Hd R0'), .t (dSh S Hd R0' nodes), Sl.w p4 (.lst (D.map dC)), .any, .any, .any, .any, .any] := ((R6.set_t 5 (.int (m : Int))).forget 5).eq rfl
    clear R6
    generalize σ'.set 5 (some (.int (m : Int))) = σ7 at R7 ⊢
    have s71 : σ7[1]? = some (some (.ref dp)) := R7.sl 1 _ rfl
    refine sq (s_asgQ (op_Q (lst_c ((et_int (K := K) (n := 0)) H6 (.refl _) _ fun v7 H7 e7 t7 => cons_Q ((et_i (g := (· - ·)) (et_lenL (e1_w (R7.same e7) (i := 4) rfl)) et_int) H7 (.refl _) _ fun v8 H8 e8 t8 => cons_Q ((et_lenL (e1_w ((R7.same e7).same e8) (i := 4) rfl)) H8 (.refl _) _ fun v9 H9 e9 t9 => cons_Q ((et_neg (K := K) (n := 1) et_int) H9 (.refl _) _ fun v10 H10 e10 t10 => cons_Q ?_)))))))
    have eA := ((e7.trans e8).trans e9).trans e10
    obtain rfl := t7.i
    obtain rfl := t8.i
    obtain rfl := t9.i
    obtain rfl := t10.i
    refine ⟨.ref dp, s71, dp, 40, cp, cells, a6, b6, c6, rfl, hd6.same eA, by decide, by decide, fun r H11 a11 b11 c11 r0 r1 e11 hd11 => ⟨sz1000 (by simp), fun p hp => ?_⟩⟩
    have e12 := same_upd (o := .lst [.int 0, .int (((D.map dC).length : Int) - 1), .int ((D.map dC).length : Int), .int (-1), .int r]) hp
    have hd12 := hd11.same e12
    have hp12 : upd H11 p (.lst [.int 0, .int (((D.map dC).length : Int) - 1), .int ((D.map dC).length : Int), .int (-1), .int r]) p = some (.lst [.int 0, .int (((D.map dC).length : Int) - 1), .int ((D.map dC).length : Int), .int (-1), .int r]) := upd_same
    have pdp : p ≠ dp := fun e => by
      have := hd11.d
      rw [← e, hp] at this
      cases this
    have R11 := (R7.same eA).offs [dp] e11 hF0 (fun a ha => by obtain rfl := List.mem_singleton.mp ha; exact lst_nt (hd6.same eA).d) nwD
    have R12 := R11.same e12
    show tCall spLk [] _ _ σ7 (upd H11 p (.lst [.int 0, .int (((D.map dC).length : Int) - 1), .int ((D.map dC).length : Int), .int (-1), .int r])) _
    generalize upd H11 p (.lst [.int 0, .int (((D.map dC).length : Int) - 1), .int ((D.map dC).length : Int), .int (-1), .int r]) = H12 at hd12 hp12 R12 e12 ⊢
    refine ⟨.ref dp, s71, dp, 5, cp, cells, a11, b11, c11, rfl, hd12, by decide, by decide, fun q H13 a13 b13 c13 q0 q1 e13 hd13 => ?_⟩
    have hp13 := e13 p _ (by rw [off_out (by simpa using pdp)]; exact hp12)
    have R13 := R12.offs [dp] e13 hF0 (fun a ha => by obtain rfl := List.mem_singleton.mp ha; exact lst_nt hd12.d) nwD
    obtain ⟨kk, hkk⟩ : ∃ kk : Int, atI [V.int 0, .int (((D.map dC).length : Int) - 1), .int ((D.map dC).length : Int), .int (-1), .int r] q = some (.int kk) := by
      have : q = 0 ∨ q = 1 ∨ q = 2 ∨ q = 3 ∨ q = 4 := by omega
      rcases this with rfl | rfl | rfl | rfl | rfl <;> exact ⟨_, rfl⟩
    refine ⟨p, _, q, .int kk, rfl, rfl, SqL.of hp13, hkk, g_name R13 (.int kk) fun σ8 R8 => ?_⟩
    have R8' : Rel K H H H13 σ8 [.any, .v (.ref dp), .t (dF S Hd R0'), .t (dSh S Hd R0' nodes), Sl.w p4 (.lst (D.map dC)), .any, .t (.int kk), .any, .any, .any] := R8.eq rfl
    clear R7 R8 R11 R12 R13
    try unfold tNext
    try dsimp only
    have chain : ∀ {σ : L2.St} {H' : Hp} {z : Sl}, Rel K H H H' σ [.any, .v (.ref dp), .t (dF S Hd R0'), .t (dSh S Hd R0' nodes), Sl.w p4 (.lst (D.map dC)), .any, .t (.int kk), z, .any, .any] → ET K (tChain (rI0 fun i j => .bl (decide (i ≤ j))) (rI0 fun i j => .bl (decide (i < j))) (tC (.int 0)) (tVar 6) (tCB (fun xs H Q => ∃ p ys, xs = [.ref p] ∧ (SqL K H p ys ∨ SqT K H p ys) ∧ Q (.int ys.length) H) (tCons (tVar 4) tNil))) σ H' (.bool (decide (0 ≤ kk) && decide (kk < ((D.map dC).length : Int)))) := fun R => et_chain et_int (et_v R (i := 6) rfl) (et_lenL (e1_w R (i := 4) rfl))
    refine s_callS ((ea_t (et_v R8' (i := 3) rfl) (ea_t (et_v R8' (i := 6) rfl) ea_nil)) H13 (.refl _) _ fun vs H14 e14 t14 => ⟨S, Hd, R0', nodes, kk, t14, L.sh, L.bd, by omega, fun hin v H15 e15 t15 => ?_, fun hout H15 e15 => ?_⟩)
    · rw [hcn] at hin
      have e135 := e14.trans e15
      have hat := L.at_ kk hin.1 (by rw [hDd]; exact hin.2)
      rw [hDd] at hat
      refine g_name (R8'.same e135) t15 fun σ9 R9 => ?_
      refine s_if (b := false) (EB.eq (eb_or (eb_not (eb_B (chain (R9.eq rfl)))) fun _ => eb_t (et_neD (et_v R9 (i := 7) rfl) (et_ixL (e1_w R9 (i := 4) rfl) (et_v R9 (i := 6) rfl) (d := dC (atW S nodes kk)) (by
        obtain ⟨j, rfl⟩ : ∃ j : Nat, kk = (j : Int) := ⟨kk.toNat, by omega⟩
        exact CW.atI_nat (by rw [List.getElem?_map]; simpa using congrArg (Option.map dC) hat))) (shp_dC _).shaped (shp_dC _).shaped)) ?_) (fun hb => by cases hb) fun _ H16 e16 => ⟨a13, b13, c13, (hd13.same e135).same e16, (((R9.same e16).forget 6).forget 7).eq rfl⟩
      rw [eqv_dC]
      have h1 : decide (0 ≤ kk) = true := decide_eq_true hin.1
      have h2 : decide (kk < ((D.map dC).length : Int)) = true := decide_eq_true (by rw [List.length_map]; exact hin.2)
      rw [h1, h2]
      simp
    · rw [hcn] at hout
      have e135 := e14.trans e15
      refine ⟨true, He.exm_ok (T.fa 112), fun _ a ha => ?_, fun q => by cases q⟩
      refine s_if (b := false) (EB.eq (eb_B (chain (R8'.same e135))) ?_) (fun hb => by cases hb) fun _ H16 e16 => ⟨a13, b13, c13, (hd13.same e135).same e16, (((R8'.same e135).same e16).forget 6).eq rfl⟩
      rw [List.length_map]
      cases h1 : decide (0 ≤ kk) with
      | false => rfl
      | true =>
        have := of_decide_eq_true h1
        show decide (kk < (D.length : Int)) = false
        exact decide_eq_false fun q => hout ⟨this, q⟩
  · try unfold tNext
    try dsimp only
    have hfl : (fillsW S).length ≤ 32 := by
      rw [fillsW_len]
      exact Nat.pow_le_pow_right (n := 2) (by decide) hS5
    refine sq ((el_call (P := P_law_fillings) (ds := (fillsW S).map dC) (ea_t (et_ixT (et_v R6 (i := 2) rfl) (et_int (n := 0)) (ds := [dC S, dC Hd, dR R0']) (d := dC S) rfl) ea_nil) ⟨S, rfl, by omega, rfl⟩) H6 (.refl _) _ fun pf vf H7 hpf e7 hh7 tt7 => ?_)
    have hvl : vf.length = (fillsW S).length := by rw [tt7.length, List.length_map]
    refine ⟨40, rfl, pf, vf, rfl, SqL.of hh7, fun pp hpp => ?_⟩
    have hcut : cutV vf none (some 40) = vf := by
      unfold cutV
      rw [show (some (40 : Int)) = some ((40 : Nat) : Int) from rfl, HT.sIx_nat, HT.sIx_none, List.drop_zero, Nat.sub_zero]
      exact List.take_of_length_le (by omega)
    rw [hcut]
    have e8 := e7.trans (same_upd (o := .lst vf) hpp)
    have h8 : upd H7 pp (.lst vf) pp = some (.lst vf) := upd_same
    have tt8 := tt7.same (same_upd (o := .lst vf) hpp)
    have R8 := R6.same e8
    generalize upd H7 pp (.lst vf) = H8 at e8 h8 tt8 R8 ⊢
    refine ⟨pp, rfl, ⟨vf, .inl (.inl h8)⟩, for_list (K := K) (a := pp) (xs := vf) (fun n σ' H' => Same H8 H' ∧ Rel K H H H' σ' [.any, .v (.ref dp), .t (dF S Hd R0'), .t (dSh S Hd R0' nodes), Sl.w p4 (.lst (D.map dC)), .any, .any, .any, .any, .any]) ⟨.refl _, R8⟩ (fun n σ' H' _ hw => .inl (.inl (hw.1 _ _ h8))) (fun n v σ' H9 hn ⟨e9, R9⟩ => ?_) fun σ' H9 ⟨e9, R9⟩ => ?_⟩
    · obtain ⟨d, hd0, td⟩ := tt8.get' hn
      obtain ⟨f, hf, rfl⟩ := map_get hd0
      have hfm := List.mem_of_getElem? hf
      have hfl2 := fillsW_mem hfm
      refine g_name R9 (td.same e9) fun σ10 R10 => ?_
      have hnum := L.num f hfm
      rw [hDd] at hnum
      refine sq (s_set R10 (d := .int (if D.contains f then ((D.idxOf f : Nat) : Int) else -1)) (et_if (b := D.contains f) (EB.eq (eb_t (et_inLD (et_v R10 (i := 8) rfl) (e1_w R10 (i := 4) rfl) (shp_dC f).shaped (shp_rowsL D).shaped)) (any_eqv D f)) (fun hb => ?_) fun hb => ?_) fun σ11 H11 e11 R11 => ?_)
      · rw [if_pos hb]
        exact et_index R10 (i := 4) (j := 8) rfl rfl (by simpa using hb)
      · rw [if_neg (by rw [hb]; decide)]
        exact et_neg et_int
      · try unfold tNext
        try dsimp only
        refine s_if (b := false) (EB.eq (eb_t (et_neI (et_call (ea_t (et_v R11 (i := 3) rfl) (ea_t (et_v R11 (i := 8) rfl) ea_nil)) ⟨S, Hd, R0', nodes, f, rfl, L.sh, L.bd, by omega, by omega, rfl⟩) (et_v R11 (i := 9) rfl))) ?_) (fun hb => by cases hb) fun _ H12 e12 => ⟨(e9.trans e11).trans e12, (((R11.same e12).forget 8).forget 9).eq rfl⟩
        rw [hnum]
        simp
    · exact k H9
end
end CW

/-! Plain: the value of a node. -/
namespace CW
open PySem
section
variable {ls S : List Int} {R Q : Rs} {a : Int → Bool} {p3 : Bool}
theorem Fs_unsat (h : ¬ Sat R) : Fs S R a = 0 := Fs_zero fun ⟨b, _, hb⟩ => h ⟨b, hb⟩
theorem cnt_unsat {vs : List Int} (h : ¬ Sat R) : cnt ls vs (Fs S R) a = 0 := by
  rw [cnt_congr (G := fun _ => 0) fun b _ => Fs_unsat h]
  exact cnt_zero
theorem Fs_sat0 (h : shownOf S R = []) (hs : Sat R) : Fs S R a = 1 := by
  obtain ⟨b, hb⟩ := hs
  refine Fs_one ⟨fun v => if v ∈ S then a v else b v, fun v hv => if_pos hv, ?_⟩
  rw [← hb]
  refine satR_dep fun v hv => if_neg fun q => ?_
  have : v ∈ shownOf S R := mem_shownOf.mpr ⟨hv, q⟩
  rw [h] at this
  cases this
/-- free variables ahead of a child -/
theorem way_free {O C : List Int} {F : (Int → Bool) → Int} {l : Int} (h1 : O.Nodup) (h2 : C.Nodup) (h3 : ∀ v ∈ C, v ∈ O ∧ v ≠ iabs l) (hF : Dep F C) : freeW ls (O.filter fun v => (!C.contains v) && !decide (v = iabs l)) * cnt ls C F a = cnt ls (O.filter fun v => !decide (v = iabs l)) F a := by
  rw [cnt_perm (lack_perm h1 h2 h3) (h1.filter _), cnt_frees hF]
  intro v hv
  have := (List.mem_filter.mp hv).2
  simp at this
  exact this.1
theorem filter_pos {O : List Int} (h : ∀ v ∈ O, 0 < v) : (O.filter fun v => !decide (v = iabs 0)) = O := List.filter_eq_self.mpr fun v hv => by
  have := h v hv
  have e : iabs 0 = 0 := rfl
  rw [e]
  simp
  omega
theorem shown_pos (h : NZ R) : ∀ v ∈ shownOf S R, 0 < v := fun v hv => varsOf_pos h (mem_shownOf.mp hv).1
theorem iabs_pos {v : Int} (h : 0 < v) : iabs v = v ∧ iabs (-v) = v := by
  unfold iabs
  constructor <;> split <;> omega
/-- one side of a variable -/
theorem cnt_side {v : Int} {rest : List Int} {x : Bool} (hp : 0 < v) (hS : v ∈ S) (hv : v ∉ rest) : cnt ls rest (Fs S R) (put a v x) = cnt ls rest (Fs S (under R (if x then v else -v))) a := by
  have hl : ∀ b : Int → Bool, b v = x → litT b (if x then v else -v) = true := fun b hb => by
    unfold litT
    cases x with
    | true => simp only [if_true]; rw [if_neg (by omega)]; exact hb
    | false =>
      simp only [Bool.false_eq_true, if_false]
      rw [if_pos (by omega), Int.neg_neg, hb]
      rfl
  have hi : iabs (if x then v else -v) = v := by cases x <;> simp [iabs_pos hp]
  have h0 : (if x then v else -v) ≠ 0 := by cases x <;> simp <;> omega
  rw [cnt_congr (G := Fs S (under R (if x then v else -v))) fun b hb => Fs_under h0 (by rw [hi]; exact hS) (hl b (by rw [hb v hv, put_same]))]
  refine cnt_dep (dep_Fs S _) fun w hw _ => put_ne fun e => ?_
  have := (shown_under hw).2
  rw [hi] at this
  exact this e
theorem perm_out {O : List Int} {v : Int} (h : O.Nodup) (hv : v ∈ O) : O.Perm (v :: O.filter fun w => !decide (w = v)) := by
  refine (List.perm_ext_iff_of_nodup h ?_).mpr fun w => ?_
  · refine List.nodup_cons.mpr ⟨fun q => ?_, h.filter _⟩
    have := (List.mem_filter.mp q).2
    simp at this
  · rw [List.mem_cons, List.mem_filter]
    constructor
    · intro hw
      by_cases q : w = v
      · exact .inl q
      · exact .inr ⟨hw, by simpa using q⟩
    · rintro (rfl | ⟨hw, _⟩)
      · exact hv
      · exact hw
/-- both ways of a shown variable -/
theorem cnt_choice {v : Int} (hz : NZ R) (hv : v ∈ shownOf S R) : cnt ls (shownOf S R) (Fs S R) a = wt ls (-v) * cnt ls ((shownOf S R).filter fun w => !decide (w = v)) (Fs S (under R (-v))) a + wt ls v * cnt ls ((shownOf S R).filter fun w => !decide (w = v)) (Fs S (under R v)) a := by
  have hp := shown_pos hz v hv
  have hS := (mem_shownOf.mp hv).2
  have hn : v ∉ (shownOf S R).filter fun w => !decide (w = v) := fun q => by
    have := (List.mem_filter.mp q).2
    simp at this
  rw [cnt_perm (perm_out (nodup_shownOf S R) hv) (nodup_shownOf S R)]
  show wt ls (-v) * cnt ls _ (Fs S R) (put a v false) + wt ls v * cnt ls _ (Fs S R) (put a v true) = _
  rw [cnt_side hp hS hn, cnt_side hp hS hn]
  rfl
theorem sat_withRow {l : Int} (hz : NZ R) (h0 : l ≠ 0) (hf : followsB R [l] = true) (b : Int → Bool) : satR b (withRow R [l]) = satR b R := by
  have hun : ¬ Sat (under R (-l)) := fun q => by
    have : (prop (under R (-l))).1 = [[]] := by
      unfold followsB at hf
      simpa using hf
    have h2 := (sat_prop (nz_under (-l) hz)).mpr q
    rw [this] at h2
    exact not_sat_empty h2
  rw [Bool.eq_iff_iff]
  constructor
  · intro h
    exact satR_iff.mpr fun c hc => satR_iff.mp h c (mem_withRow.mpr (.inr hc))
  · intro h
    refine satR_iff.mpr fun c hc => ?_
    rcases mem_withRow.mp hc with rfl | hc
    · refine ⟨l, by simp, ?_⟩
      cases e : litT b l with
      | true => rfl
      | false => exact absurd ((sat_under_iff (by omega)).mpr ⟨b, by rw [litT_neg h0, e]; rfl, h⟩) hun
    · exact satR_iff.mp h c hc
theorem Fs_sat_eq (h : ∀ b, satR b R = satR b Q) : Fs S R a = Fs S Q a := Fs_iff (exists_congr fun b => and_congr_right fun _ => by rw [h b])
/-- a unit over a hidden variable -/
theorem Fs_unitH {l : Int} (h0 : l ≠ 0) (hu : [l] ∈ R) (hS : iabs l ∉ S) : Fs S R a = Fs S (under R l) a := Fs_iff ⟨fun ⟨b, h1, h2⟩ => by
  obtain ⟨z, hz, hz2⟩ := satR_iff.mp h2 [l] hu
  rw [List.mem_singleton.mp hz] at hz2
  exact ⟨b, h1, by rw [sat_under h0 hz2]; exact h2⟩, fun ⟨b, h1, h2⟩ => ⟨setV b l, fun v hv => by
    rw [← h1 v hv]
    exact if_neg fun e => hS (by rw [← e]; exact hv), by
    rw [← sat_under h0 (litT_set h0), satR_set]
    exact h2⟩⟩
theorem unsat_opp {l : Int} (h0 : l ≠ 0) (hu : [l] ∈ R) : ¬ Sat (under R (-l)) := by
  refine not_sat_hasE (hasE_iff.mpr (mem_under.mpr ⟨[l], hu, ?_⟩))
  unfold undC
  have h1 : ([l] : Cl).contains (-l) = false := by
    simp
    omega
  rw [h1, Int.neg_neg]
  simp
end
end CW

/-! Plain: the value of a node, of parts, of the sheet. -/
namespace CW
open PySem
section
variable {ls S : List Int} {R : Rs} {a : Int → Bool} {p3 : Bool}
theorem prod01 {α : Type} {F : α → Prop} {g : α → Int} (h1 : ∀ x, F x → g x = 1) (h0 : ∀ x, ¬ F x → g x = 0) : ∀ ks : List α, ((∀ k ∈ ks, F k) → prodI (ks.map g) = 1) ∧ (¬ (∀ k ∈ ks, F k) → prodI (ks.map g) = 0)
  | [] => ⟨fun _ => rfl, fun h => absurd (fun k hk => by cases hk) h⟩
  | k :: ks => by
    obtain ⟨i1, i2⟩ := prod01 h1 h0 ks
    rw [List.map_cons, prodI_cons]
    by_cases q : F k
    · rw [h1 k q, Int.one_mul]
      refine ⟨fun h => i1 fun z hz => h z (List.mem_cons_of_mem _ hz), fun h => i2 fun z => h fun y hy => ?_⟩
      rcases List.mem_cons.mp hy with rfl | hy
      · exact q
      · exact z y hy
    · rw [h0 k q, Int.zero_mul]
      exact ⟨fun h => absurd (h k List.mem_cons_self) q, fun _ => rfl⟩
theorem dep_mono {F : (Int → Bool) → Int} {D E : List Int} (h : Dep F D) (hs : ∀ v ∈ D, v ∈ E) : Dep F E := fun a b e => h a b fun v hv => e v (hs v hv)
theorem dep_prod {G : Int → (Int → Bool) → Int} {C : Int → List Int} (h : ∀ k, Dep (G k) (C k)) : ∀ ks : List Int, Dep (fun b => prodI (ks.map fun k => G k b)) (ks.flatMap C)
  | [] => fun _ _ _ => rfl
  | k :: ks => fun a b e => by
    show prodI ((k :: ks).map _) = prodI ((k :: ks).map _)
    rw [List.map_cons, List.map_cons, prodI_cons, prodI_cons, h k a b fun v hv => e v (by rw [List.flatMap_cons]; exact List.mem_append_left _ hv)]
    congr 1
    exact dep_prod h ks a b fun v hv => e v (by rw [List.flatMap_cons]; exact List.mem_append_right _ hv)
theorem cnt_parts {G : Int → (Int → Bool) → Int} {C : Int → List Int} (h : ∀ k, Dep (G k) (C k)) : ∀ ks : List Int, (ks.flatMap C).Nodup → cnt ls (ks.flatMap C) (fun b => prodI (ks.map fun k => G k b)) a = prodI (ks.map fun k => cnt ls (C k) (G k) a)
  | [], _ => rfl
  | k :: ks, hn => by
    rw [List.flatMap_cons] at hn ⊢
    obtain ⟨n1, n2, n3⟩ := List.nodup_append.mp hn
    rw [List.map_cons, prodI_cons, ← cnt_parts h ks n2]
    rw [cnt_congr (G := fun b => G k b * prodI (ks.map fun k => G k b)) fun b _ => by rw [List.map_cons, prodI_cons]]
    exact cnt_prod (h k) (dep_prod h ks) (fun v hv q => n3 v hv v q rfl) fun v hv q => n3 v q v hv rfl
/-- the parts of a residue -/
theorem cnt_of_parts {L : Int → Int} (U : Unif L R) (hE : hasE R = false) : cnt ls (shownOf S R) (Fs S R) a = prodI ((partsOf (kap L) R).map fun P => cnt ls (shownOf S P) (Fs S P) a) := by
  have hk0 := keys_nodup (kap L) R
  have hvp := vars_parts U _ hk0
  have hmem : ∀ k, k ∈ sortI (keysOf (kap L) R) ↔ k ∈ keysOf (kap L) R := fun k => (sortI_perm _).mem_iff
  have hP : partsOf (kap L) R = (sortI (keysOf (kap L) R)).map fun k => residueOf (grp (kap L) R k) := rfl
  generalize hks : sortI (keysOf (kap L) R) = ks at hk0 hvp hmem hP
  rw [hP, List.map_map]
  show _ = prodI (ks.map fun k => cnt ls (shownOf S (residueOf (grp (kap L) R k))) (Fs S (residueOf (grp (kap L) R k))) a)
  have hkey : ∀ c ∈ R, kap L c ∈ ks := fun c hc => (hmem _).mpr (mem_dedup.mpr (.inr (List.mem_map.mpr ⟨c, hc, rfl⟩)))
  have hLv : ∀ c ∈ R, ∀ l ∈ c, L (iabs l) = kap L c := fun c hc l hl => by
    cases c with
    | nil => cases hl
    | cons z c => exact U _ hc l hl z List.mem_cons_self
  have hnd : (ks.flatMap fun k => shownOf S (residueOf (grp (kap L) R k))).Nodup := by
    have e : (ks.flatMap fun k => shownOf S (residueOf (grp (kap L) R k))) = (ks.flatMap fun k => varsOf (residueOf (grp (kap L) R k))).filter fun v => S.contains v := by
      rw [List.filter_flatMap]
      rfl
    rw [e]
    exact hvp.filter _
  rw [← cnt_parts (fun k => dep_Fs S (residueOf (grp (kap L) R k))) ks hnd]
  have hperm : (shownOf S R).Perm (ks.flatMap fun k => shownOf S (residueOf (grp (kap L) R k))) := by
    refine (List.perm_ext_iff_of_nodup (nodup_shownOf S R) hnd).mpr fun v => ?_
    rw [List.mem_flatMap, mem_shownOf]
    constructor
    · rintro ⟨h1, h2⟩
      obtain ⟨c, hc, l, hl, rfl⟩ := mem_varsOf.mp h1
      exact ⟨kap L c, hkey c hc, mem_shownOf.mpr ⟨mem_varsOf.mpr ⟨c, mem_grp.mpr ⟨hc, rfl⟩, l, hl, rfl⟩, h2⟩⟩
    · rintro ⟨k, _, h⟩
      obtain ⟨h1, h2⟩ := mem_shownOf.mp h
      exact ⟨vars_of_sub (fun c hc => (mem_grp.mp hc).1) h1, h2⟩
  rw [cnt_perm hperm (nodup_shownOf S R)]
  refine cnt_congr fun b _ => ?_
  obtain ⟨p1, p0⟩ := prod01 (F := fun k => FW S (residueOf (grp (kap L) R k)) b) (g := fun k => Fs S (residueOf (grp (kap L) R k)) b) (fun k h => Fs_one h) (fun k h => Fs_zero h) ks
  by_cases q : FW S R b
  · rw [Fs_one q, p1]
    intro k _
    obtain ⟨c, h1, h2⟩ := q
    exact ⟨c, h1, satR_iff.mpr fun z hz => satR_iff.mp h2 z (mem_grp.mp hz).1⟩
  · rw [Fs_zero q, p0]
    intro hall
    apply q
    have hall2 : ∀ k, ∃ c : Int → Bool, k ∈ ks → (∀ v ∈ S, c v = b v) ∧ satR c (residueOf (grp (kap L) R k)) = true := fun k => by
      by_cases hk : k ∈ ks
      · obtain ⟨c, h1, h2⟩ := hall k hk
        exact ⟨c, fun _ => ⟨h1, h2⟩⟩
      · exact ⟨b, fun z => absurd z hk⟩
    refine ⟨fun v => if v ∈ S then b v else Classical.choose (hall2 (L v)) v, fun v hv => if_pos hv, satR_iff.mpr fun c hc => ?_⟩
    obtain ⟨g1, g2⟩ := Classical.choose_spec (hall2 (kap L c)) (hkey c hc)
    obtain ⟨l, hl, hl2⟩ := satR_iff.mp g2 c (mem_grp.mpr ⟨hc, rfl⟩)
    refine ⟨l, hl, ?_⟩
    refine (litT_iabs ?_).trans hl2
    have e := hLv c hc l hl
    by_cases hS : iabs l ∈ S
    · show (if iabs l ∈ S then b (iabs l) else _) = _
      rw [if_pos hS]
      exact (g1 _ hS).symm
    · show (if iabs l ∈ S then b (iabs l) else Classical.choose (hall2 (L (iabs l))) (iabs l)) = _
      rw [if_neg hS, e]
/-- children's values as they stand -/
def KidV (ls S : List Int) (own : List Cl) (sums : List Int) (ks : List Rs) (kn : List Nat) : Prop := ∀ (j c : Nat), kn[j]? = some c → ∃ Rc, ks[j]? = some Rc ∧ own.getD c [] = shownOf S Rc ∧ ∀ a, sums.getD c 0 = cnt ls (shownOf S Rc) (Fs S Rc) a
theorem kidV_map {own : List Cl} {sums : List Int} {ks : List Rs} {kn : List Nat} (hk : KidV ls S own sums ks kn) (hl : kn.length = ks.length) (a : Int → Bool) : kn.map (fun c => sums.getD c 0) = ks.map fun P => cnt ls (shownOf S P) (Fs S P) a := by
  refine List.ext_getElem (by rw [List.length_map, List.length_map, hl]) fun j h1 h2 => ?_
  rw [List.length_map] at h1
  obtain ⟨Rc, e1, _, e3⟩ := hk j kn[j] (List.getElem?_eq_getElem h1)
  obtain ⟨h4, e4⟩ := List.getElem?_eq_some_iff.mp e1
  rw [List.getElem_map, List.getElem_map, e3 a, e4]
theorem node_val {t : Tg} {as : List PyData} {ks : List Rs} {mk : List Nat → Rule} {kn : List Nat} {own : List Cl} {sums : List Int} {i : Nat} (h : PlanOk S p3 R t as ks mk) (hR : RB S R) (hl : kn.length = ks.length) (hi : own.getD i [] = shownOf S R) (hk : KidV ls S own sums ks kn) :
    nodeSum ls S own sums i (mk kn) = cnt ls (shownOf S R) (Fs S R) a := by
  have hn := nodup_shownOf S R
  have hpos := shown_pos (S := S) hR.nz
  -- one child that has the same models, nothing told
  have same1 : ∀ (r : Rule) (c : Nat) (Rc : Rs), r.tg ≠ .parts → r.tg ≠ .yes → r.tg ≠ .some_ → r.kids = [c] → told S r = [0] → own.getD c [] = shownOf S Rc → (∀ a, sums.getD c 0 = cnt ls (shownOf S Rc) (Fs S Rc) a) → (∀ v ∈ shownOf S Rc, v ∈ shownOf S R) → (∀ b, Fs S R b = Fs S Rc b) → nodeSum ls S own sums i r = cnt ls (shownOf S R) (Fs S R) a := fun r c Rc t1 t2 t3 hkids ht ho hs hsub hF => by
    unfold nodeSum
    rw [if_neg (by simp [t2, t3]), if_neg t1, hkids]
    have hw : wayW ls S own i r 0 = freeW ls ((shownOf S R).filter fun v => (!(shownOf S Rc).contains v) && !decide (v = iabs 0)) := by
      unfold wayW lack
      rw [if_neg t1, ht, hkids, hi]
      show freeW ls ((shownOf S R).filter fun v => (!(own.getD c []).contains v) && !decide (v = iabs 0)) * 1 = _
      rw [ho, Int.mul_one]
    show (0 : Int) + wayW ls S own i r 0 * sums.getD c 0 = _
    rw [hw, Int.zero_add, hs a, way_free hn (nodup_shownOf S Rc) (fun v hv => ⟨hsub v hv, by have := hpos v (hsub v hv); have e : iabs 0 = 0 := rfl; omega⟩) (dep_Fs S Rc), filter_pos hpos]
    exact (cnt_congr fun b _ => hF b).symm
  cases h with
  | no h =>
    rw [cnt_unsat (not_sat_hasE h)]
    rfl
  | refuted d h h3 =>
    rw [cnt_unsat h3]
    rfl
  | yes h =>
    subst h
    have e : shownOf S [] = [] := by
      unfold shownOf
      rw [show varsOf [] = [] from sortI_nil]
      rfl
    rw [e]
    exact (Fs_one ⟨a, fun _ _ => rfl, rfl⟩).symm
  | some_ d h h2 h3 =>
    rw [h2]
    exact (Fs_sat0 h2 h3).symm
  | less h h2 h3 h4 =>
    obtain ⟨c, rfl⟩ := List.length_eq_one_iff.mp hl
    obtain ⟨Rc, e1, e2, e3⟩ := hk 0 c rfl
    obtain rfl : lessened R = Rc := by simpa using e1
    refine same1 _ c (lessened R) (by intro e; cases e) (by intro e; cases e) (by intro e; cases e) rfl rfl e2 e3 (fun v hv => ?_) fun b => Fs_sat_eq fun b => (sat_less hR.can b).symm
    obtain ⟨g1, g2⟩ := mem_shownOf.mp hv
    exact mem_shownOf.mpr ⟨vars_of_sub (fun c hc => (mem_lessened.mp hc).1) g1, g2⟩
  | more l h h2 h3 h4 h5 =>
    obtain ⟨c, rfl⟩ := List.length_eq_one_iff.mp hl
    obtain ⟨Rc, e1, e2, e3⟩ := hk 0 c rfl
    obtain rfl : withRow R [l] = Rc := by simpa using e1
    have hp := hpos _ h4
    have h0 : l ≠ 0 := fun e => by subst e; exact absurd hp (by decide)
    refine same1 _ c (withRow R [l]) (by intro e; cases e) (by intro e; cases e) (by intro e; cases e) rfl rfl e2 e3 (fun v hv => ?_) fun b => Fs_sat_eq fun b => (sat_withRow hR.nz h0 h5 b).symm
    obtain ⟨g1, g2⟩ := mem_shownOf.mp hv
    refine mem_shownOf.mpr ⟨?_, g2⟩
    obtain ⟨z, hz, y, hy, rfl⟩ := mem_varsOf.mp g1
    rcases mem_withRow.mp hz with rfl | hz
    · obtain rfl := List.mem_singleton.mp hy
      exact (mem_shownOf.mp h4).1
    · exact mem_varsOf.mpr ⟨z, hz, y, hy, rfl⟩
  | unit l us h h2 =>
    obtain ⟨c, rfl⟩ := List.length_eq_one_iff.mp hl
    obtain ⟨Rc, e1, e2, e3⟩ := hk 0 c rfl
    obtain rfl : under R l = Rc := by simpa using e1
    have hu : [l] ∈ R := mem_unitsOf.mp (by rw [h2]; exact List.mem_cons_self)
    have h0 : l ≠ 0 := hR.nz _ hu l (by simp)
    have hvar : iabs l ∈ varsOf R := mem_varsOf.mpr ⟨[l], hu, l, by simp, rfl⟩
    by_cases hS : S.contains (iabs l) = true
    · have hS' : iabs l ∈ S := by simpa using hS
      have hsh : iabs l ∈ shownOf S R := mem_shownOf.mpr ⟨hvar, hS'⟩
      have hp := hpos _ hsh
      have ht : told S (.unit l c) = [l] := by
        show (if S.contains (iabs l) then [l] else [0]) = [l]
        rw [if_pos hS]
      show (0 : Int) + wayW ls S own i (.unit l c) 0 * sums.getD c 0 = _
      have hw : wayW ls S own i (.unit l c) 0 = freeW ls ((shownOf S R).filter fun v => (!(shownOf S (under R l)).contains v) && !decide (v = iabs l)) * wt ls l := by
        unfold wayW lack
        rw [if_neg (by intro e; cases e), ht, hi]
        show freeW ls ((shownOf S R).filter fun v => (!(own.getD c []).contains v) && !decide (v = iabs l)) * (if l = 0 then 1 else wt ls l) = _
        rw [e2, if_neg h0]
      rw [hw, Int.zero_add, e3 a, cnt_choice hR.nz hsh]
      have hf := way_free (ls := ls) (a := a) hn (nodup_shownOf S (under R l)) (l := l) (fun v hv => shown_under hv) (dep_Fs S (under R l))
      have hun := unsat_opp h0 hu
      by_cases q : 0 < l
      · have e : iabs l = l := (iabs_pos q).1
        rw [e] at hf ⊢
        rw [cnt_unsat hun, ← hf]
        grind
      · have e : iabs l = -l := by unfold iabs; split <;> omega
        rw [e] at hf ⊢
        rw [cnt_unsat hun, Int.neg_neg, ← hf]
        grind
    · have hS' : iabs l ∉ S := by simpa using hS
      refine same1 _ c (under R l) (by intro e; cases e) (by intro e; cases e) (by intro e; cases e) rfl ?_ e2 e3 (fun v hv => (shown_under hv).1) fun b => Fs_unitH h0 hu hS'
      show (if S.contains (iabs l) then [l] else [0]) = [0]
      rw [if_neg hS]
  | choice v h h2 h3 h4 =>
    obtain ⟨c0, c1, rfl⟩ := len2 hl
    obtain ⟨R0, e01, e02, e03⟩ := hk 0 c0 rfl
    obtain ⟨R1, e11, e12, e13⟩ := hk 1 c1 rfl
    obtain rfl : under R v = R0 := by simpa using e01
    obtain rfl : under R (-v) = R1 := by simpa using e11
    have hp := hpos v h4
    obtain ⟨i1, i2⟩ := iabs_pos hp
    show (0 : Int) + wayW ls S own i (.choice v c0 c1) 0 * sums.getD c0 0 + wayW ls S own i (.choice v c0 c1) 1 * sums.getD c1 0 = _
    have hw0 : wayW ls S own i (.choice v c0 c1) 0 = freeW ls ((shownOf S R).filter fun w => (!(shownOf S (under R v)).contains w) && !decide (w = iabs v)) * wt ls v := by
      unfold wayW lack
      rw [if_neg (by intro e; cases e), hi]
      show freeW ls ((shownOf S R).filter fun w => (!(own.getD c0 []).contains w) && !decide (w = iabs v)) * (if v = 0 then 1 else wt ls v) = _
      rw [e02, if_neg (by omega)]
    have hw1 : wayW ls S own i (.choice v c0 c1) 1 = freeW ls ((shownOf S R).filter fun w => (!(shownOf S (under R (-v))).contains w) && !decide (w = iabs (-v))) * wt ls (-v) := by
      unfold wayW lack
      rw [if_neg (by intro e; cases e), hi]
      show freeW ls ((shownOf S R).filter fun w => (!(own.getD c1 []).contains w) && !decide (w = iabs (-v))) * (if -v = 0 then 1 else wt ls (-v)) = _
      rw [e12, if_neg (by omega)]
    have f0 := way_free (ls := ls) (a := a) hn (nodup_shownOf S (under R v)) (l := v) (fun w hw => shown_under hw) (dep_Fs S (under R v))
    have f1 := way_free (ls := ls) (a := a) hn (nodup_shownOf S (under R (-v))) (l := -v) (fun w hw => shown_under hw) (dep_Fs S (under R (-v)))
    rw [hw0, hw1, e03 a, e13 a, cnt_choice hR.nz h4]
    rw [i1] at f0 ⊢
    rw [i2] at f1 ⊢
    rw [← f0, ← f1]
    grind
  | parts L h h2 h3 U h4 =>
    show prodI (kn.map fun c => sums.getD c 0) = _
    rw [kidV_map hk hl a, ← cnt_of_parts U h]
end
end CW

/-! Plain: the sheet's count, the models in their order. -/
namespace CW
open PySem
section
variable {S Hd : List Int} {R0 : Rs} {ns : List Node} {p3 : Bool} {ls : List Int}
theorem own_get {i : Nat} {x : Node} (h : ns[i]? = some x) : (ownOf S ns).getD i [] = shownOf S x.1 := by
  unfold ownOf
  rw [List.getD_eq_getElem?_getD, List.getElem?_map, h]
  rfl
theorem sheet_ShOk (hs : SheetOk S p3 ns) (hne : ns ≠ []) (hl : ns.length ≤ 700) : ShOk ns := by
  refine ⟨hne, by omega, fun i x hx c hc => ?_, fun x hx => ?_, fun x hx => ?_⟩
  · obtain ⟨g1, g2, t, a, ks, mk, kn, g3, g4, g5, g6, g7, g8⟩ := hs i x hx
    rw [g4, g3.kids g5] at hc
    exact g8 c hc
  · obtain ⟨i, hi⟩ := List.getElem?_of_mem hx
    obtain ⟨g1, g2, t, a, ks, mk, kn, g3, g4, g5, g6, g7, g8⟩ := hs i x hi
    rw [g4]
    exact g3.ok g5 g6
  · obtain ⟨i, hi⟩ := List.getElem?_of_mem hx
    obtain ⟨g1, g2, _⟩ := hs i x hi
    have := rsok_of g1 g2
    exact ⟨Nat.le_trans this.2.1 (by decide), this.2.2⟩
theorem vals_val (hs : SheetOk S p3 ns) : ∀ m, m ≤ ns.length → ∀ (i : Nat) (x : Node), i < m → ns[i]? = some x → ∀ a, (vals ls S ns m).getD i 0 = cnt ls (shownOf S x.1) (Fs S x.1) a
  | 0, _, _, _, h, _, _ => by omega
  | m + 1, hm, i, x, hi, hx, a => by
    have ih := vals_val hs m (by omega)
    have hlen := vals_len ls S ns m
    unfold vals
    by_cases q : i < m
    · rw [List.getD_eq_getElem?_getD, List.getElem?_append_left (by omega), ← List.getD_eq_getElem?_getD]
      exact ih i x q hx a
    · obtain rfl : i = m := by omega
      rw [List.getD_eq_getElem?_getD, List.getElem?_append_right (by omega), hlen, Nat.sub_self]
      show nodeSum ls S (ownOf S ns) (vals ls S ns i) i (ruleAt ns i) = _
      obtain ⟨g1, g2, t, as, ks, mk, kn, g3, g4, g5, g6, g7, g8⟩ := hs i x hx
      have hr : ruleAt ns i = mk kn := by
        unfold ruleAt
        rw [hx]
        exact g4
      rw [hr]
      refine node_val g3 g1 g5 (own_get hx) fun j c hj => ?_
      obtain ⟨Rc, e1, e2⟩ := g7 j c hj
      have hc := g8 c (List.mem_of_getElem? hj)
      cases e3 : ns[c]? with
      | none => rw [e3] at e2; cases e2
      | some y =>
        rw [e3] at e2
        have ey : y.1 = Rc := Option.some.inj e2
        exact ⟨Rc, e1, by rw [own_get e3, ey], fun a => by rw [ih c y hc e3 a, ey]⟩
theorem shown_le7 (h : RB S R0) : (shownOf S R0).length ≤ 7 := Nat.le_trans (List.length_filter_le _ _) h.v7
theorem sheet_Bd (hs : SheetOk S p3 ns) : Bd S ns := fun ls x hx => by
  obtain ⟨i, hi⟩ := List.getElem?_of_mem hx
  have hil := (List.getElem?_eq_some_iff.mp hi).1
  rw [vals_len] at hil
  have hn : ns[i]? = some ns[i] := List.getElem?_eq_getElem hil
  have hv := vals_val (ls := ls) hs ns.length (Nat.le_refl _) i ns[i] hil hn (fun _ => true)
  rw [List.getD_eq_getElem?_getD, hi] at hv
  have hv' : x = cnt ls (shownOf S ns[i].1) (Fs S ns[i].1) fun _ => true := hv
  obtain ⟨b1, b2⟩ := cnt_bound (ls := ls) (Fs_01 S ns[i].1) (vs := shownOf S ns[i].1) (a := fun _ => true)
  have h7 := shown_le7 (hs i ns[i] hn).1
  have hp : (2 : Int) ^ (shownOf S ns[i].1).length ≤ 2 ^ 7 := by
    have := pow_mono h7
    exact_mod_cast this
  rw [hv']
  have e7 : (2 : Int) ^ 7 = 128 := by decide
  have e64 : (128 : Int) < 2 ^ 64 := by decide
  constructor
  · have : -(2 ^ 64 : Int) < 0 := by decide
    omega
  · omega
/-- the whole count -/
theorem countLs_val (hs : SheetOk S p3 ns) (hla : ∃ pre r, ns = pre ++ [(R0, r)]) (hS : S.Nodup) (a : Int → Bool) : countLs ls S ns = cnt ls S (Fs S R0) a := by
  obtain ⟨pre, r, rfl⟩ := hla
  have hget : (pre ++ [(R0, r)])[pre.length]? = some (R0, r) := by simp
  have hlen : (pre ++ [(R0, r)]).length - 1 = pre.length := by simp
  have hlast : lastR (pre ++ [(R0, r)]) = R0 := by
    unfold lastR
    rw [hlen, hget]
  unfold countLs outsideOf
  rw [hlast, hlen, vals_val hs _ (Nat.le_refl _) pre.length (R0, r) (by simp) hget a]
  show freeW ls (S.filter fun v => !(shownOf S R0).contains v) * cnt ls (shownOf S R0) (Fs S R0) a = _
  rw [← cnt_frees (dep_Fs S R0) (us := S.filter fun v => !(shownOf S R0).contains v) fun v hv => by
    have := (List.mem_filter.mp hv).2
    simpa using this]
  refine cnt_perm ?_ ?_
  · refine (List.perm_ext_iff_of_nodup ?_ hS).mpr fun v => ?_
    · rw [List.nodup_append]
      refine ⟨hS.filter _, nodup_shownOf S R0, fun x hx y hy e => ?_⟩
      subst e
      have := (List.mem_filter.mp hx).2
      simp [hy] at this
    · rw [List.mem_append, List.mem_filter]
      constructor
      · rintro (⟨h, _⟩ | h)
        · exact h
        · exact (mem_shownOf.mp h).2
      · intro h
        by_cases q : v ∈ shownOf S R0
        · exact .inr q
        · exact .inl ⟨h, by simpa using q⟩
  · rw [List.nodup_append]
    refine ⟨hS.filter _, nodup_shownOf S R0, fun x hx y hy e => ?_⟩
    subst e
    have := (List.mem_filter.mp hx).2
    simp [hy] at this
end
/-! ### the models that go on from a prefix -/
def ext (M : Cl → Bool) : Cl → List Int → Rs
  | p, [] => if M p = true then [p] else []
  | p, v :: vs => ext M (p ++ [-v]) vs ++ ext M (p ++ [v]) vs
theorem ext_fold (M : Cl → Bool) : ∀ (vs : List Int) (rows : Rs), (vs.foldl longW rows).filter M = rows.flatMap fun p => ext M p vs
  | [], rows => by
    induction rows with
    | nil => rfl
    | cons r rows ih =>
      rw [List.flatMap_cons, ← ih]
      show (r :: rows).filter M = (if M r = true then [r] else []) ++ rows.filter M
      rw [List.filter_cons]
      split <;> simp_all
  | v :: vs, rows => by
    rw [List.foldl_cons, ext_fold M vs]
    unfold longW
    rw [List.flatMap_assoc]
    congr 1
    funext p
    simp [ext]
theorem ext_fills (M : Cl → Bool) (S : List Int) : (fillsW S).filter M = ext M [] S := by
  unfold fillsW
  rw [ext_fold]
  simp
theorem mem_fold : ∀ (vs : List Int) (rows : Rs), (∀ v ∈ vs, 0 < v) → ∀ f, f ∈ vs.foldl longW rows ↔ ∃ q ∈ rows, ∃ s, f = q ++ s ∧ s.map iabs = vs
  | [], rows, _, f => by
    constructor
    · intro h
      exact ⟨f, h, [], by simp, rfl⟩
    · rintro ⟨q, hq, s, rfl, hs⟩
      have : s = [] := by simpa using hs
      subst this
      simpa using hq
  | v :: vs, rows, hp, f => by
    have hv := iabs_pos (hp v List.mem_cons_self)
    rw [List.foldl_cons, mem_fold vs _ fun w hw => hp w (List.mem_cons_of_mem _ hw)]
    unfold longW
    constructor
    · rintro ⟨q, hq, s, rfl, hs⟩
      obtain ⟨r, hr, hq⟩ := List.mem_flatMap.mp hq
      simp only [List.mem_cons, List.not_mem_nil, or_false] at hq
      rcases hq with rfl | rfl
      · exact ⟨r, hr, -v :: s, by simp, by rw [List.map_cons, hs, hv.2]⟩
      · exact ⟨r, hr, v :: s, by simp, by rw [List.map_cons, hs, hv.1]⟩
    · rintro ⟨r, hr, s, rfl, hs⟩
      cases s with
      | nil => cases hs
      | cons l s =>
        rw [List.map_cons] at hs
        injection hs with h1 h2
        have hl : l = v ∨ l = -v := by
          have : iabs l = iabs v := by rw [h1, hv.1]
          exact iabs_eq this
        refine ⟨r ++ [l], List.mem_flatMap.mpr ⟨r, hr, ?_⟩, s, by simp, h2⟩
        rcases hl with rfl | rfl <;> simp
theorem mem_fills {vs : List Int} (hp : ∀ v ∈ vs, 0 < v) {f : Cl} : f ∈ fillsW vs ↔ f.map iabs = vs := by
  unfold fillsW
  rw [mem_fold vs [[]] hp]
  constructor
  · rintro ⟨q, hq, s, rfl, hs⟩
    obtain rfl := List.mem_singleton.mp hq
    exact hs
  · intro h
    exact ⟨[], by simp, f, rfl, h⟩
end CW

/-! Plain: the count is the number of models; the law's answers. -/
namespace CW
open PySem
def Mdl (Hd : List Int) (R0 : Rs) (f : Cl) : Bool := (fillsW Hd).any fun r => keepsB R0 (f ++ r)
theorem modelsL_ext (S Hd : List Int) (R0 : Rs) : modelsL S Hd R0 = ext (Mdl Hd R0) [] S := ext_fills (Mdl Hd R0) S
theorem keeps_iff {R : Rs} {f : Cl} : keepsB R f = true ↔ ∀ c ∈ R, ∃ l ∈ c, l ∈ f := by
  unfold keepsB
  rw [List.all_eq_true]
  refine forall₂_congr fun c _ => ?_
  rw [List.any_eq_true]
  simp
theorem nodup_iabs {f : Cl} (h : (f.map iabs).Nodup) {l z : Int} (hl : l ∈ f) (hz : z ∈ f) (e : iabs l = iabs z) : l = z := nodup_map_inj h hl hz e
theorem litT_true_eq {a : Int → Bool} {l z : Int} (h0 : l ≠ 0) (h1 : litT a l = true) (h2 : litT a z = true) (e : iabs l = iabs z) : l = z := by
  rcases iabs_eq e with h | h
  · exact h
  · subst h
    have hz : z ≠ 0 := by omega
    rw [litT_neg hz, h2] at h1
    cases h1
section
variable {S Hd : List Int} {R0 : Rs} {M : Cl → Bool}
/-- a full filling that agrees with an assignment -/
theorem leaf (hF : FormOk S Hd R0) {f : Cl} {a : Int → Bool} (hf : f.map iabs = S) (ha : ∀ l ∈ f, litT a l = true) : FW S R0 a ↔ Mdl Hd R0 f = true := by
  have hnd := List.nodup_append.mp hF.nd
  have hpS : ∀ v ∈ S, 0 < v := fun v hv => by have := (hF.lo v (List.mem_append_left _ hv)).1; omega
  have hpH : ∀ v ∈ Hd, 0 < v := fun v hv => by have := (hF.lo v (List.mem_append_right _ hv)).1; omega
  have hfn : (f.map iabs).Nodup := by rw [hf]; exact hnd.1
  have hl0 : ∀ c ∈ R0, ∀ l ∈ c, l ≠ 0 := fun c hc l hl e => by
    have := (hF.lo _ (hF.inn c hc l hl)).1
    subst e
    exact absurd this (by decide)
  have inF : ∀ v ∈ S, ∃ l ∈ f, iabs l = v := fun v hv => by
    rw [← hf] at hv
    obtain ⟨l, hl, e⟩ := List.mem_map.mp hv
    exact ⟨l, hl, e⟩
  unfold Mdl
  rw [List.any_eq_true]
  constructor
  · rintro ⟨b, h1, h2⟩
    have hr : (Hd.map fun v => if b v then v else -v) ∈ fillsW Hd := (mem_fills hpH).mpr (by
      rw [List.map_map]
      have : Hd.map (iabs ∘ fun v => if b v = true then v else -v) = Hd.map id := List.map_congr_left fun v hv => by
        have := iabs_pos (hpH v hv)
        show iabs (if b v = true then v else -v) = v
        split
        · exact this.1
        · exact this.2
      rw [this, List.map_id])
    refine ⟨_, hr, keeps_iff.mpr fun c hc => ?_⟩
    obtain ⟨l, hl, hl2⟩ := satR_iff.mp h2 c hc
    refine ⟨l, hl, ?_⟩
    have h0 := hl0 c hc l hl
    rcases List.mem_append.mp (hF.inn c hc l hl) with hS | hH
    · obtain ⟨z, hz, e⟩ := inF _ hS
      have hz2 := ha z hz
      have hz3 : litT b z = true := by
        rw [← hz2]
        exact litT_iabs (h1 _ (by rw [e]; exact hS))
      have := litT_true_eq h0 hl2 hz3 e.symm
      rw [this]
      exact List.mem_append_left _ hz
    · refine List.mem_append_right _ (List.mem_map.mpr ⟨iabs l, hH, ?_⟩)
      unfold litT at hl2
      by_cases q : l < 0
      · rw [if_pos q] at hl2
        have e : iabs l = -l := by unfold iabs; rw [if_pos q]
        rw [e]
        have hb : b (-l) = false := by simpa using hl2
        rw [hb]
        simp
      · rw [if_neg q] at hl2
        have e : iabs l = l := by unfold iabs; rw [if_neg q]
        rw [e, hl2]
        simp
  · rintro ⟨r, hr, hk⟩
    have hrm := (mem_fills hpH).mp hr
    have hrn : (r.map iabs).Nodup := by rw [hrm]; exact hnd.2.1
    refine ⟨fun v => if v ∈ S then a v else decide (v ∈ r), fun v hv => if_pos hv, satR_iff.mpr fun c hc => ?_⟩
    obtain ⟨l, hl, hlf⟩ := keeps_iff.mp hk c hc
    refine ⟨l, hl, ?_⟩
    have h0 := hl0 c hc l hl
    rcases List.mem_append.mp hlf with hlf | hlr
    · have hS : iabs l ∈ S := by rw [← hf]; exact List.mem_map.mpr ⟨l, hlf, rfl⟩
      exact (litT_iabs (if_pos hS)).trans (ha l hlf)
    · have hH : iabs l ∈ Hd := by rw [← hrm]; exact List.mem_map.mpr ⟨l, hlr, rfl⟩
      have hS : iabs l ∉ S := fun q => hnd.2.2 _ q _ hH rfl
      unfold litT
      by_cases q : l < 0
      · have e : iabs l = -l := by unfold iabs; rw [if_pos q]
        rw [if_pos q]
        rw [e] at hS
        show (!(if -l ∈ S then a (-l) else decide (-l ∈ r))) = true
        rw [if_neg hS]
        have : -l ∉ r := fun z => by
          have := nodup_iabs hrn hlr z (by rw [e, show iabs (-l) = -l by unfold iabs; rw [if_neg (by omega)]])
          omega
        simp [this]
      · have e : iabs l = l := by unfold iabs; rw [if_neg q]
        rw [if_neg q]
        rw [e] at hS
        show (if l ∈ S then a l else decide (l ∈ r)) = true
        rw [if_neg hS]
        simpa using hlr
theorem lsOf_mem {p : Cl} {l : Int} : (lsOf p).contains l = true ↔ -l ∈ p := by
  unfold lsOf
  rw [List.contains_iff_mem, mem_sortL, mem_dedup]
  constructor
  · rintro (h | h)
    · cases h
    · obtain ⟨z, hz, rfl⟩ := List.mem_map.mp h
      rw [Int.neg_neg]; exact hz
  · intro h
    exact .inr (List.mem_map.mpr ⟨-l, h, Int.neg_neg l⟩)
theorem wt_one {p : Cl} {l : Int} (h : -l ∉ p) : wt (lsOf p) l = 1 := by
  unfold wt
  rw [if_neg fun q => h (lsOf_mem.mp q)]
theorem wt_zero {p : Cl} {l : Int} (h : -l ∈ p) : wt (lsOf p) l = 0 := by
  unfold wt
  rw [if_pos (lsOf_mem.mpr h)]
/-- behind the prefix all weights are one -/
theorem cnt_ext {ls : List Int} {F : (Int → Bool) → Int} (hS : S.Nodup) (hp : ∀ v ∈ S, 0 < v) (hF : ∀ f a, f.map iabs = S → (∀ l ∈ f, litT a l = true) → F a = if M f = true then 1 else 0) :
    ∀ (S2 : List Int) (p : Cl) (a : Int → Bool), p.map iabs ++ S2 = S → (∀ l ∈ p, litT a l = true) → (∀ v ∈ S2, wt ls v = 1 ∧ wt ls (-v) = 1) → cnt ls S2 F a = ((ext M p S2).length : Int)
  | [], p, a, h1, h2, _ => by
    rw [List.append_nil] at h1
    show F a = _
    rw [hF p a h1 h2]
    unfold ext
    split <;> rfl
  | v :: S2, p, a, h1, h2, h3 => by
    have hvS : v ∈ S := by rw [← h1]; simp
    have hv := hp v hvS
    obtain ⟨i1, i2⟩ := iabs_pos hv
    have hvp : ∀ l ∈ p, iabs l ≠ v := fun l hl e => by
      rw [← h1] at hS
      exact (List.nodup_append.mp hS).2.2 (iabs l) (List.mem_map.mpr ⟨l, hl, rfl⟩) v List.mem_cons_self e
    have agree : ∀ (x : Bool), ∀ l ∈ p, litT (put a v x) l = true := fun x l hl => (litT_iabs (put_ne (hvp l hl))).trans (h2 l hl)
    obtain ⟨w1, w2⟩ := h3 v List.mem_cons_self
    simp only [cnt, ext]
    rw [w1, w2, Int.one_mul, Int.one_mul, List.length_append]
    rw [cnt_ext hS hp hF S2 (p ++ [-v]) (put a v false) (by rw [List.map_append, List.append_assoc]; simpa [i2] using h1) (fun l hl => ?_) fun w hw => h3 w (List.mem_cons_of_mem _ hw)]
    · rw [cnt_ext hS hp hF S2 (p ++ [v]) (put a v true) (by rw [List.map_append, List.append_assoc]; simpa [i1] using h1) (fun l hl => ?_) fun w hw => h3 w (List.mem_cons_of_mem _ hw)]
      · omega
      · rcases List.mem_append.mp hl with hl | hl
        · exact agree true l hl
        · obtain rfl := List.mem_singleton.mp hl
          unfold litT
          rw [if_neg (by omega), put_same]
    · rcases List.mem_append.mp hl with hl | hl
      · exact agree false l hl
      · obtain rfl := List.mem_singleton.mp hl
        unfold litT
        rw [if_pos (by omega), Int.neg_neg, put_same]
        rfl
/-- the prefix itself -/
theorem cnt_pre {F : (Int → Bool) → Int} {q : Cl} (hS : S.Nodup) (hp : ∀ v ∈ S, 0 < v) : ∀ (p2 p1 : Cl) (S2 : List Int) (a : Int → Bool), q = p1 ++ p2 → q.map iabs ++ S2 = S → (∀ l ∈ p1, litT a l = true) → ∃ a', (∀ l ∈ q, litT a' l = true) ∧ cnt (lsOf q) (p2.map iabs ++ S2) F a = cnt (lsOf q) S2 F a'
  | [], p1, S2, a, h1, _, h3 => ⟨a, by rw [h1, List.append_nil]; exact h3, rfl⟩
  | l :: p2, p1, S2, a, h1, h2, h3 => by
    have hqn : (q.map iabs).Nodup := by
      rw [← h2] at hS
      exact (List.nodup_append.mp hS).1
    have hlq : l ∈ q := by rw [h1]; simp
    have hvS : iabs l ∈ S := by rw [← h2]; exact List.mem_append_left _ (List.mem_map.mpr ⟨l, hlq, rfl⟩)
    have hv := hp _ hvS
    have hnl : -l ∉ q := fun z => by
      have := nodup_iabs hqn hlq z (by unfold iabs; split <;> split <;> omega)
      subst_vars
      unfold iabs at hv
      split at hv <;> omega
    have hne : ∀ z ∈ p1, iabs z ≠ iabs l := fun z hz e => by
      rw [h1, List.map_append] at hqn
      exact (List.nodup_append.mp hqn).2.2 _ (List.mem_map.mpr ⟨z, hz, rfl⟩) _ (by simp) e
    have step : ∀ x : Bool, (litT (put a (iabs l) x) l = true) → ∃ a', (∀ z ∈ q, litT a' z = true) ∧ cnt (lsOf q) (p2.map iabs ++ S2) F (put a (iabs l) x) = cnt (lsOf q) S2 F a' := fun x hx => by
      refine cnt_pre hS hp p2 (p1 ++ [l]) S2 (put a (iabs l) x) (by rw [h1]; simp) h2 fun z hz => ?_
      rcases List.mem_append.mp hz with hz | hz
      · exact (litT_iabs (put_ne (hne z hz))).trans (h3 z hz)
      · rw [List.mem_singleton.mp hz]; exact hx
    rw [List.map_cons, List.cons_append]
    simp only [cnt]
    by_cases hl : l < 0
    · have e : iabs l = -l := by unfold iabs; rw [if_pos hl]
      rw [e] at step ⊢
      rw [Int.neg_neg, wt_one hnl, wt_zero (l := -l) (by rw [Int.neg_neg]; exact hlq), Int.one_mul, Int.zero_mul, Int.add_zero]
      refine step false ?_
      unfold litT
      rw [if_pos hl, put_same]
      rfl
    · have e : iabs l = l := by unfold iabs; rw [if_neg hl]
      rw [e] at step ⊢
      rw [wt_one hnl, wt_zero (l := -l) (by rw [Int.neg_neg]; exact hlq), Int.one_mul, Int.zero_mul, Int.zero_add]
      refine step true ?_
      unfold litT
      rw [if_neg hl, put_same]
theorem countW_ext {ns : List Node} {p3 : Bool} (hF : FormOk S Hd R0) (hs : SheetOk S p3 ns) (hla : ∃ pre r, ns = pre ++ [(R0, r)]) {p : Cl} {S2 : List Int} (h : p.map iabs ++ S2 = S) : countW S ns p = ((ext (Mdl Hd R0) p S2).length : Int) := by
  have hS := (List.nodup_append.mp hF.nd).1
  have hp : ∀ v ∈ S, 0 < v := fun v hv => by have := (hF.lo v (List.mem_append_left _ hv)).1; omega
  unfold countW
  rw [countLs_val hs hla hS fun _ => true]
  obtain ⟨a', h1, h2⟩ := cnt_pre (F := Fs S R0) (q := p) hS hp p [] S2 (fun _ => true) rfl h (fun l hl => by cases hl)
  rw [h] at h2
  rw [h2]
  refine cnt_ext hS hp (fun f a hf ha => ?_) S2 p a' h h1 fun v hv => ?_
  · have := leaf hF hf ha
    by_cases q : FW S R0 a
    · rw [Fs_one q, if_pos (this.mp q)]
    · rw [Fs_zero q, if_neg fun z => q (this.mpr z)]
  · have hvp : ∀ l ∈ p, iabs l ≠ v := fun l hl e => by
      rw [← h] at hS
      exact (List.nodup_append.mp hS).2.2 (iabs l) (List.mem_map.mpr ⟨l, hl, rfl⟩) v hv e
    have hv0 := iabs_pos (hp v (by rw [← h]; exact List.mem_append_right _ hv))
    exact ⟨wt_one fun z => hvp _ z hv0.2, wt_one fun z => hvp _ z (by rw [Int.neg_neg]; exact hv0.1)⟩
end
end CW

/-! Plain: models, model_at, number_of by the list of the models. -/
namespace CW
open PySem
section
variable {S Hd : List Int} {R0 : Rs} {ns : List Node} {p3 : Bool}
/-- every prefix's count -/
def CntOk (S : List Int) (ns : List Node) (M : Cl → Bool) : Prop := ∀ (p : Cl) (S2 : List Int), p.map iabs ++ S2 = S → countW S ns p = ((ext M p S2).length : Int)
variable {M : Cl → Bool}
theorem pre_neg (hp : ∀ v ∈ S, 0 < v) {p : Cl} {v : Int} {S2 : List Int} (h : p.map iabs ++ v :: S2 = S) : (p ++ [-v]).map iabs ++ S2 = S ∧ (p ++ [v]).map iabs ++ S2 = S := by
  obtain ⟨i1, i2⟩ := iabs_pos (hp v (by rw [← h]; simp))
  constructor
  · rw [List.map_append, List.append_assoc]; simpa [i2] using h
  · rw [List.map_append, List.append_assoc]; simpa [i1] using h
theorem dfs_ext (hp : ∀ v ∈ S, 0 < v) (hc : CntOk S ns M) : ∀ (S2 : List Int) (p : Cl), p.map iabs ++ S2 = S → 0 < countW S ns p → dfs S ns S2.length p = ext M p S2
  | [], p, h, h0 => by
    have := hc p [] h
    rw [this] at h0
    unfold ext at h0 ⊢
    show [p] = _
    split
    · rfl
    · rename_i q
      rw [if_neg q] at h0
      exact absurd h0 (by decide)
  | v :: S2, p, h, h0 => by
    obtain ⟨g1, g2⟩ := pre_neg hp h
    have hl : p.length + (S2.length + 1) = S.length := by rw [← h]; simp
    have hget : S.getD p.length 0 = v := by
      rw [← h, List.getD_eq_getElem?_getD, List.getElem?_append_right (by simp)]
      simp
    show (if countW S ns (p ++ [-(S.getD p.length 0)]) > 0 then dfs S ns S2.length (p ++ [-(S.getD p.length 0)]) else []) ++ (if countW S ns (p ++ [S.getD p.length 0]) > 0 then dfs S ns S2.length (p ++ [S.getD p.length 0]) else []) = ext M (p ++ [-v]) S2 ++ ext M (p ++ [v]) S2
    rw [hget]
    have side : ∀ q : Cl, q.map iabs ++ S2 = S → (if countW S ns q > 0 then dfs S ns S2.length q else []) = ext M q S2 := fun q hq => by
      by_cases z : countW S ns q > 0
      · rw [if_pos z]
        exact dfs_ext hp hc S2 q hq z
      · rw [if_neg z]
        have := hc q S2 hq
        have hl : (ext M q S2).length = 0 := by omega
        exact (List.length_eq_zero_iff.mp hl).symm
    rw [side _ g1, side _ g2]
theorem mods_ext (hp : ∀ v ∈ S, 0 < v) (hc : CntOk S ns M) : modelsW S ns = ext M [] S := by
  unfold modelsW
  have h0 := hc [] S rfl
  by_cases q : countW S ns [] = 0
  · rw [if_pos q]
    rw [q] at h0
    have : (ext M [] S).length = 0 := by omega
    exact (List.length_eq_zero_iff.mp this).symm
  · rw [if_neg q]
    exact dfs_ext hp hc S [] rfl (by omega)
theorem at_ext (hp : ∀ v ∈ S, 0 < v) (hc : CntOk S ns M) : ∀ (S2 : List Int) (p : Cl) (k : Int), p.map iabs ++ S2 = S → 0 ≤ k → k < ((ext M p S2).length : Int) → (ext M p S2)[k.toNat]? = some (S2.foldl (atStep S ns) (p, k)).1
  | [], p, k, h, h1, h2 => by
    unfold ext at h2 ⊢
    split at h2
    · rename_i q
      rw [if_pos q]
      have : k = 0 := by simp at h2; omega
      subst this
      rfl
    · exact absurd h2 (by simp; omega)
  | v :: S2, p, k, h, h1, h2 => by
    obtain ⟨g1, g2⟩ := pre_neg hp h
    have c1 := hc _ _ g1
    rw [List.foldl_cons]
    unfold atStep
    simp only [ext] at h2 ⊢
    rw [List.length_append] at h2
    by_cases q : k < countW S ns (p ++ [-v])
    · rw [if_pos q]
      rw [List.getElem?_append_left (by omega)]
      exact at_ext hp hc S2 (p ++ [-v]) k g1 h1 (by omega)
    · rw [if_neg q]
      rw [List.getElem?_append_right (by omega)]
      have e : k.toNat - (ext M (p ++ [-v]) S2).length = (k - countW S ns (p ++ [-v])).toNat := by omega
      rw [e]
      exact at_ext hp hc S2 (p ++ [v]) (k - countW S ns (p ++ [-v])) g2 (by omega) (by omega)
theorem ext_mem : ∀ (S2 : List Int) (p : Cl) {f : Cl}, f ∈ ext M p S2 → M f = true ∧ ∃ s, f = p ++ s
  | [], p, f, h => by
    unfold ext at h
    split at h
    · obtain rfl := List.mem_singleton.mp h
      exact ⟨by assumption, [], by simp⟩
    · cases h
  | v :: S2, p, f, h => by
    simp only [ext] at h
    rcases List.mem_append.mp h with h | h
    · obtain ⟨h1, s, h2⟩ := ext_mem S2 _ h
      exact ⟨h1, -v :: s, by rw [h2]; simp⟩
    · obtain ⟨h1, s, h2⟩ := ext_mem S2 _ h
      exact ⟨h1, v :: s, by rw [h2]; simp⟩
theorem ext_has (hp : ∀ v ∈ S, 0 < v) : ∀ (S2 : List Int) (p s : Cl), p.map iabs ++ S2 = S → s.map iabs = S2 → M (p ++ s) = true → p ++ s ∈ ext M p S2
  | [], p, s, h, hs, hm => by
    have : s = [] := by simpa using hs
    subst this
    rw [List.append_nil] at hm ⊢
    unfold ext
    rw [if_pos hm]
    simp
  | v :: S2, p, s, h, hs, hm => by
    obtain ⟨g1, g2⟩ := pre_neg hp h
    cases s with
    | nil => cases hs
    | cons l s =>
      rw [List.map_cons] at hs
      injection hs with h1 h2
      have hv := hp v (by rw [← h]; simp)
      have hl : l = v ∨ l = -v := iabs_eq (by rw [h1, (iabs_pos hv).1])
      simp only [ext]
      have e : p ++ l :: s = (p ++ [l]) ++ s := by simp
      rw [e] at hm ⊢
      rcases hl with rfl | rfl
      · exact List.mem_append_right _ (ext_has hp S2 _ s g2 h2 hm)
      · exact List.mem_append_left _ (ext_has hp S2 _ s g1 h2 hm)
/-- one step of the number of a model -/
theorem idx_step (hp : ∀ v ∈ S, 0 < v) {p s : Cl} {l v : Int} {S2 : List Int} (h : p.map iabs ++ v :: S2 = S) (hl : iabs l = v) (hs : s.map iabs = S2) (hm : M (p ++ l :: s) = true) :
    (ext M p (v :: S2)).idxOf (p ++ l :: s) = (if l > 0 then (ext M (p ++ [-l]) S2).length else 0) + (ext M (p ++ [l]) S2).idxOf (p ++ l :: s) := by
  obtain ⟨g1, g2⟩ := pre_neg hp h
  have hv := hp v (by rw [← h]; simp)
  have e : p ++ l :: s = (p ++ [l]) ++ s := by simp
  simp only [ext]
  rw [List.idxOf_append]
  rcases iabs_eq (a := l) (b := v) (by rw [hl, (iabs_pos hv).1]) with rfl | rfl
  · rw [if_neg, if_pos hv]
    · omega
    · intro q
      obtain ⟨_, s', e'⟩ := ext_mem S2 _ q
      have := congrArg (fun z => z[p.length]?) e'
      simp at this
      omega
  · rw [if_pos, if_neg (by omega), Nat.zero_add]
    rw [e] at hm ⊢
    exact ext_has hp S2 _ s g1 hs hm
theorem num_ext (hp : ∀ v ∈ S, 0 < v) (hc : CntOk S ns M) {f : Cl} (hf : f.map iabs = S) : numberW S ns f = if (ext M [] S).contains f then ((ext M [] S).idxOf f : Int) else -1 := by
  have hfc := hc f [] (by rw [List.append_nil]; exact hf)
  have hmem : f ∈ ext M [] S ↔ M f = true := ⟨fun h => (ext_mem S [] h).1, fun h => by
    have := ext_has (M := M) hp S [] f rfl hf (by simpa using h)
    simpa using this⟩
  unfold numberW
  by_cases q : M f = true
  · have h1 : countW S ns f ≠ 0 := by
      rw [hfc]
      unfold ext
      rw [if_pos q]
      simp
    rw [if_neg h1, if_pos (by simpa using hmem.mpr q)]
    have hlen : f.length = S.length := by rw [← hf]; simp
    -- the sum up to j
    have key : ∀ j, j ≤ f.length → ((ext M [] S).idxOf f : Int) = (List.range j).foldl (fun acc k => if f.getD k 0 > 0 then acc + countW S ns (f.take k ++ [-(f.getD k 0)]) else acc) 0 + ((ext M (f.take j) (S.drop j)).idxOf f : Int) := by
      intro j
      induction j with
      | zero => intro _; simp
      | succ j ih =>
        intro hj
        have hjl : j < f.length := by omega
        have hjS : j < S.length := by omega
        rw [ih (by omega), List.range_succ, List.foldl_append]
        have hsp : (f.take j).map iabs ++ S[j] :: S.drop (j + 1) = S := by
          rw [← List.drop_eq_getElem_cons hjS, List.map_take, hf, List.take_append_drop]
        have hfl : f = f.take j ++ f[j] :: f.drop (j + 1) := by
          rw [← List.drop_eq_getElem_cons hjl, List.take_append_drop]
        have hil : iabs f[j] = S[j] := by
          have : (f.map iabs)[j]? = S[j]? := by rw [hf]
          rw [List.getElem?_map, List.getElem?_eq_getElem hjl, List.getElem?_eq_getElem hjS] at this
          exact Option.some.inj this
        have st := idx_step (M := M) hp (p := f.take j) (s := f.drop (j + 1)) (l := f[j]) hsp hil (by rw [List.map_drop, hf]) (by rw [← hfl]; exact q)
        rw [← hfl] at st
        have hgd : f.getD j 0 = f[j] := by rw [List.getD_eq_getElem?_getD, List.getElem?_eq_getElem hjl]; rfl
        have htk : f.take (j + 1) = f.take j ++ [f[j]] := by rw [List.take_add_one, List.getElem?_eq_getElem hjl]; rfl
        rw [List.drop_eq_getElem_cons hjS, st, htk]
        show _ = (if f.getD j 0 > 0 then _ + countW S ns (f.take j ++ [-(f.getD j 0)]) else _) + _
        rw [hgd]
        by_cases hp0 : f[j] > 0
        · rw [if_pos hp0, if_pos hp0]
          have hcc := hc (f.take j ++ [-f[j]]) (S.drop (j + 1)) (by
            rw [List.map_append, List.append_assoc]
            have : iabs (-f[j]) = S[j] := by rw [← hil]; unfold iabs; split <;> split <;> omega
            simpa [this] using hsp)
          rw [hcc]
          omega
        · rw [if_neg hp0, if_neg hp0]
          omega
    rw [key f.length (Nat.le_refl _)]
    have hz : (ext M (f.take f.length) (S.drop f.length)).idxOf f = 0 := by
      rw [List.take_length, hlen, List.drop_length]
      unfold ext
      rw [if_pos q]
      simp
    rw [hz]
    simp
  · have h1 : countW S ns f = 0 := by
      rw [hfc]
      unfold ext
      rw [if_neg q]
      rfl
    rw [if_pos h1, if_neg]
    intro z
    exact q (hmem.mp (by simpa using z))
theorem lawM (hF : FormOk S Hd R0) (hs : SheetOk S p3 ns) (hla : ∃ pre r, ns = pre ++ [(R0, r)]) (hl : ns.length ≤ 700) : LawM S Hd R0 ns := by
  have hp : ∀ v ∈ S, 0 < v := fun v hv => by have := (hF.lo v (List.mem_append_left _ hv)).1; omega
  have hc : CntOk S ns (Mdl Hd R0) := fun p S2 h => countW_ext hF hs hla h
  have hne : ns ≠ [] := by
    obtain ⟨pre, r, rfl⟩ := hla
    simp
  refine ⟨sheet_ShOk hs hne hl, sheet_Bd hs, ?_, ?_, fun k h1 h2 => ?_, fun f hf => ?_⟩
  · rw [modelsL_ext]
    exact hc [] S rfl
  · rw [modelsL_ext]
    exact mods_ext hp hc
  · rw [modelsL_ext] at h2 ⊢
    exact at_ext hp hc S [] k rfl h1 h2
  · rw [modelsL_ext]
    exact num_ext hp hc ((mem_fills hp).mp hf)
end
end CW

set_option maxRecDepth 100000
set_option maxHeartbeats 0
/-! The run of the head: boot, imports, top. -/
namespace CW
open PySem PySem.Spec PyProof.Rows L2
abbrev RowR : PySem.W.OpenRow := PySem.W.OpenLaw.row PySem.Challenge.rw_countsworn_k11_models_by_number
def loose : List Str :=
  (["fraction", "plus", "times", "product", "literal_key", "clause_key", "clause_of", "residue_of", "variables_of", "under", "weight_of", "CountsError", "OpenSheet", "NoFilling", "PolicyError", "EMPTY"] : List Str) ++
  (["units", "has_empty", "propagate", "joined_variables", "parts_of", "is_within", "lessened", "shown_of", "children_of", "reached", "is_open", "ZERO", "ONE", "free_weight", "own_variables", "literals_told"] : List Str) ++
  (["lacking", "way_weight", "node_sum", "all_sums", "outside", "bounds", "demand_closed", "sum_of", "with_prefix", "count_with", "model_count", "model_at", "number_of", "models", "opposites", "follows"] : List Str) ++
  (["with_row", "is_row", "is_order", "is_policy", "most_used", "chosen", "Trail", "search_counted", "Maker", "compile_sheet", "_law_draw", "_law_take", "_law_key", "_law_sorted", "_law_clause", "_law_formula"] : List Str) ++
  (["_law_gcd", "_law_fraction", "_law_weights", "_law_fillings", "_law_longer", "_law_keeps", "_law_models", "_law_weight", "_law_total", "_law_policy", "_law_sheet"] : List Str)
def ob (s : PySem.W.SharedT) : He.AlD × Bool := obsG (HeadRun.getT s)
theorem ob_eq (s : PySem.W.SharedT) : ob s = hk.obs s.abs := by
  show obsG (HeadRun.getT s) = obsG s.abs.heap.get?
  exact congrArg obsG (by first | exact HeadRun.getT_eq s | exact HeadRun.getT_eq | (funext a; exact HeadRun.getT_eq) | (funext a; exact HeadRun.getT_eq s a))
theorem run (w : World) : HeadRun.RunEqI RowR (PySem.W.view RowR.prog [0, 88]) hk ob 6000 loose w := by
  unfold HeadRun.RunEqI
  kernel_rfl
end CW

set_option maxRecDepth 100000
set_option maxHeartbeats 0
namespace CW
open PySem PySem.Spec PyProof.Rows L2
theorem facts {P : Program} {w : World} {K : PySem.W.Frag} {h : Heap} {mg : Str → Option Value} {f : Addr} (X : K.In h) (G : h.Ns mainGlobals mg) (hfa : mg ("law" : Str) = some (.ref f)) (c : Says K) :
    ∃ fd : FuncData, (∀ (s : Shared) (v : Value), BindsTo s fd ⟨[v], []⟩ [("_law_script", v)]) ∧ ∀ base : Heap, K.In base → base.Ns mainGlobals mg → FnOk P w K mg base CX0 17 f fd ["_law_script"] (spLaw K) := by
  have T : Tx K mg h := ⟨c, X, G⟩
  obtain ⟨fd, F⟩ := T.fn 76
  have F' : FunD K "law" "law" (defArgs sQlaw) (defBody sQlaw) (defScope sQlaw) [] [] (He.ga K "law") fd := F
  have e := hfa.symm.trans (T.glo 61 rfl)
  obtain rfl : f = He.ga K "law" := by cases e; rfl
  have b := FunD.bindsA (ps := ["_law_script"]) F' fun _ _ _ _ _ _ us hl => match us, hl with | [_], _ => rfl
  exact ⟨fd, fun s v => b s [v] rfl, fun base hX hG => ok_law ⟨c, hX, hG⟩ (fun S Hd R0 ns p3 h1 h2 h3 h4 => lawM h1 h2 h3 h4) F'⟩
end CW
open PySem PySem.W PySem.Calls PyProof.Rows
theorem PySem.Challenge.cw_countsworn_k11_models_by_number_holds : PySem.Challenge.rw_countsworn_k11_models_by_number.Holds := by
  w_on; o_law
  refine HeadRun.head_imp (r := OpenLaw.row PySem.Challenge.rw_countsworn_k11_models_by_number) (q := view (OpenLaw.row PySem.Challenge.rw_countsworn_k11_models_by_number).prog [0, 88]) (H := CW.hk) (ob := CW.ob) (M := 6000) (loose := CW.loose) (d := HeadRun.topDef (OpenLaw.row PySem.Challenge.rw_countsworn_k11_models_by_number).prog 88) (kwd := []) CW.ob_eq CW.run
    (by kernel_rfl) (by kernel_rfl) (by kernel_rfl) (by rfl) (by first | assumption | decide +kernel) (by decide +kernel) ⟨rfl, rfl, rfl, rfl, rfl, by decide +kernel⟩ ?hw ?hc
  case hw => w_witness2
  case hc =>
    refine L2.walk_ofE (l := PySem.Challenge.rw_countsworn_k11_models_by_number) (n := 63) (k := 17) (x := "_law_script") (CX := L2.CX0) rfl (by decide) (by kernel_rfl) ⟨rfl, by decide, by decide⟩ ?F (fun _ _ _ _ z => z)
    intro w mg fa h Y G hmg0
    obtain ⟨K, KX, c⟩ := Y
    have hmg : mg ("law" : PySem.Str) = some (.ref fa) := by
      have e : (HeadRun.topDef (OpenLaw.row PySem.Challenge.rw_countsworn_k11_models_by_number).prog 88).name = ("law" : PySem.Str) := by kernel_rfl
      rw [← e]
      exact hmg0
    obtain ⟨fd, hb, hF⟩ := CW.facts (P := (PySem.Challenge.rw_countsworn_k11_models_by_number).prog) (w := w) KX G hmg c
    exact ⟨K, fd, CW.spLaw K, KX, hb, fun H a ns hl _ hS => ⟨a, ns, rfl, hl, hS, fun _ => rfl⟩, hF⟩

