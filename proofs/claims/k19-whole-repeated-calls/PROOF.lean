import PyProof.Rows.All
import Wide.All
import OpenK.AllK
import Wide.FinOn
import KE.KStateDown
import Lean
import KE.SortData
import KE.KDictWalk
import KE.KDictCopyH
import HandS.ForMost
import HandS.Base
import HandS.Call
import HandS.List
import HandS.Comp
import HandS.Dict
import HandS.Iter
import HandS.Text
import HandS.Walk
import HandS.Evl
import HandS.DictComp
import HandS.Zip
import HandS.IsInst
import HandS.Ends
import HandS.More
import HandS.Words
import HandS.WordsList
import HandS.WordsDict
import HandS.WordsExc
import HandS.Defaults
import HandS.TupAny
import HandS.Conv
import HandS.Codes
import HandS.Exc
import HandS.TryOnly
import HandS.Lambda
import HandS.ExcInit
import HandS.ExcOwn
import HandS.ExcIs
import HandS.EndBits
import HandS.EndTab
import HandS.Head0
import HandS.Head1
import HandS.Head2
import HandS.HeadEnd
import HandS.HeadHook1
import HandS.HeadHook2
import HandS.HeadHook3
import HandS.HeadHook4
import HandS.HeadWalk
import HandS.SetFor
import HandS.Strs
import KE.GoesEnum
import HandS.ExcField
import HandS.Nested
import HandS.Finally
import PySem.Challenge.RW_flagclause_k19_whole_repeated_calls
/-! ## K19Txt -/
set_option Elab.async false
set_option linter.all false
set_option maxRecDepth 100000
set_option maxHeartbeats 4000000
namespace K19
open PySem PySem.Spec PyProof.Rows L2
def top (i : Nat) : Stmt := PySem.Challenge.pw_flagclause_k19_whole_repeated_calls.main.body.getD i (.Pass ⟨0, 0, 0, 0⟩)
abbrev s_InvalidGrammar_init : Stmt := inClass (top 2) 0
abbrev s_UnknownOption_init : Stmt := inClass (top 3) 0
abbrev s_InvalidChain_init : Stmt := inClass (top 5) 0
abbrev s_Conflict_init : Stmt := inClass (top 7) 0
abbrev s_is_integer : Stmt := top 20
abbrev s_is_name : Stmt := top 21
abbrev s_is_short_name : Stmt := top 22
abbrev s_is_choice_word : Stmt := top 23
abbrev s_is_kind : Stmt := top 24
abbrev s_is_option : Stmt := top 25
abbrev s_check_options : Stmt := top 26
abbrev s_is_clause : Stmt := top 27
abbrev s_check_grammar : Stmt := top 28
abbrev s_names_of : Stmt := top 29
abbrev s_option_names : Stmt := top 30
abbrev s_check_names : Stmt := top 31
abbrev s_check_clause : Stmt := top 32
abbrev s_negate : Stmt := top 34
abbrev s_literals_of : Stmt := top 35
abbrev s_ImplicationGraph_init : Stmt := inClass (top 36) 0
abbrev s_ImplicationGraph_reachable : Stmt := inClass (top 36) 1
abbrev s_ImplicationGraph_distances_to : Stmt := inClass (top 36) 2
abbrev s_ImplicationGraph_shortest_chain : Stmt := inClass (top 36) 3
abbrev s_ImplicationGraph_best_chain : Stmt := inClass (top 36) 4
abbrev s_graph_of : Stmt := top 37
abbrev s_check_literals : Stmt := top 38
abbrev s_consequences : Stmt := top 39
abbrev s_find_chain : Stmt := top 40
abbrev s_find_contradiction : Stmt := top 42
abbrev s_check_satisfiable : Stmt := top 43
abbrev s_satisfies : Stmt := top 44
abbrev s_subsets_by_size : Stmt := top 45
abbrev s_accepted_sets : Stmt := top 46
abbrev s_always_required : Stmt := top 47
abbrev s_never_possible : Stmt := top 48
abbrev s_implies_literals : Stmt := top 49
abbrev s_are_equivalent : Stmt := top 50
abbrev s_option_groups : Stmt := top 51
abbrev s_conflict_chain : Stmt := top 53
abbrev s_Completion_init : Stmt := inClass (top 54) 0
abbrev s_Completion_chain_for : Stmt := inClass (top 54) 1
abbrev s_Completion_verdict : Stmt := inClass (top 54) 2
abbrev s_completion_of : Stmt := top 55
abbrev s_verdicts : Stmt := top 56
abbrev s_explain_verdict : Stmt := top 57
abbrev s_complete : Stmt := top 58
abbrev s_implying_chain : Stmt := top 60
abbrev s_implied : Stmt := top 61
abbrev s_counterexample : Stmt := top 62
abbrev s_is_redundant : Stmt := top 63
abbrev s_redundant_clauses : Stmt := top 64
abbrev s__law_dice : Stmt := top 66
abbrev s__law_next : Stmt := top 67
abbrev s__law_like : Stmt := top 68
abbrev s__law_pick : Stmt := top 69
abbrev s__law_told : Stmt := top 70
abbrev s__law_kind : Stmt := top 71
abbrev s__law_clauses : Stmt := top 72
abbrev s__law_grammar : Stmt := top 73
abbrev s__law_names : Stmt := top 74
abbrev s__law_given : Stmt := top 75
abbrev s__law_calls : Stmt := top 76
abbrev s__law_copied : Stmt := top 77
abbrev s_law : Stmt := top 78
def d_InvalidGrammar_init : He.DefD := ⟨("InvalidGrammar", some "__init__"), "__init__", "InvalidGrammar.__init__", defArgs s_InvalidGrammar_init, defBody s_InvalidGrammar_init, defScope s_InvalidGrammar_init, [], []⟩
def d_UnknownOption_init : He.DefD := ⟨("UnknownOption", some "__init__"), "__init__", "UnknownOption.__init__", defArgs s_UnknownOption_init, defBody s_UnknownOption_init, defScope s_UnknownOption_init, [], []⟩
def d_InvalidChain_init : He.DefD := ⟨("InvalidChain", some "__init__"), "__init__", "InvalidChain.__init__", defArgs s_InvalidChain_init, defBody s_InvalidChain_init, defScope s_InvalidChain_init, [], []⟩
def d_Conflict_init : He.DefD := ⟨("Conflict", some "__init__"), "__init__", "Conflict.__init__", defArgs s_Conflict_init, defBody s_Conflict_init, defScope s_Conflict_init, [], []⟩
def d_is_integer : He.DefD := ⟨("is_integer", none), "is_integer", "is_integer", defArgs s_is_integer, defBody s_is_integer, defScope s_is_integer, [], []⟩
def d_is_name : He.DefD := ⟨("is_name", none), "is_name", "is_name", defArgs s_is_name, defBody s_is_name, defScope s_is_name, [], []⟩
def d_is_short_name : He.DefD := ⟨("is_short_name", none), "is_short_name", "is_short_name", defArgs s_is_short_name, defBody s_is_short_name, defScope s_is_short_name, [], []⟩
def d_is_choice_word : He.DefD := ⟨("is_choice_word", none), "is_choice_word", "is_choice_word", defArgs s_is_choice_word, defBody s_is_choice_word, defScope s_is_choice_word, [], []⟩
def d_is_kind : He.DefD := ⟨("is_kind", none), "is_kind", "is_kind", defArgs s_is_kind, defBody s_is_kind, defScope s_is_kind, [], []⟩
def d_is_option : He.DefD := ⟨("is_option", none), "is_option", "is_option", defArgs s_is_option, defBody s_is_option, defScope s_is_option, [], []⟩
def d_check_options : He.DefD := ⟨("check_options", none), "check_options", "check_options", defArgs s_check_options, defBody s_check_options, defScope s_check_options, [], []⟩
def d_is_clause : He.DefD := ⟨("is_clause", none), "is_clause", "is_clause", defArgs s_is_clause, defBody s_is_clause, defScope s_is_clause, [], []⟩
def d_check_grammar : He.DefD := ⟨("check_grammar", none), "check_grammar", "check_grammar", defArgs s_check_grammar, defBody s_check_grammar, defScope s_check_grammar, [], []⟩
def d_names_of : He.DefD := ⟨("names_of", none), "names_of", "names_of", defArgs s_names_of, defBody s_names_of, defScope s_names_of, [], []⟩
def d_option_names : He.DefD := ⟨("option_names", none), "option_names", "option_names", defArgs s_option_names, defBody s_option_names, defScope s_option_names, [], []⟩
def d_check_names : He.DefD := ⟨("check_names", none), "check_names", "check_names", defArgs s_check_names, defBody s_check_names, defScope s_check_names, [], []⟩
def d_check_clause : He.DefD := ⟨("check_clause", none), "check_clause", "check_clause", defArgs s_check_clause, defBody s_check_clause, defScope s_check_clause, [], []⟩
def d_negate : He.DefD := ⟨("negate", none), "negate", "negate", defArgs s_negate, defBody s_negate, defScope s_negate, [], []⟩
def d_literals_of : He.DefD := ⟨("literals_of", none), "literals_of", "literals_of", defArgs s_literals_of, defBody s_literals_of, defScope s_literals_of, [], []⟩
def d_ImplicationGraph_init : He.DefD := ⟨("ImplicationGraph", some "__init__"), "__init__", "ImplicationGraph.__init__", defArgs s_ImplicationGraph_init, defBody s_ImplicationGraph_init, defScope s_ImplicationGraph_init, [], []⟩
def d_ImplicationGraph_reachable : He.DefD := ⟨("ImplicationGraph", some "reachable"), "reachable", "ImplicationGraph.reachable", defArgs s_ImplicationGraph_reachable, defBody s_ImplicationGraph_reachable, defScope s_ImplicationGraph_reachable, [], []⟩
def d_ImplicationGraph_distances_to : He.DefD := ⟨("ImplicationGraph", some "distances_to"), "distances_to", "ImplicationGraph.distances_to", defArgs s_ImplicationGraph_distances_to, defBody s_ImplicationGraph_distances_to, defScope s_ImplicationGraph_distances_to, [], []⟩
def d_ImplicationGraph_shortest_chain : He.DefD := ⟨("ImplicationGraph", some "shortest_chain"), "shortest_chain", "ImplicationGraph.shortest_chain", defArgs s_ImplicationGraph_shortest_chain, defBody s_ImplicationGraph_shortest_chain, defScope s_ImplicationGraph_shortest_chain, [], []⟩
def d_ImplicationGraph_best_chain : He.DefD := ⟨("ImplicationGraph", some "best_chain"), "best_chain", "ImplicationGraph.best_chain", defArgs s_ImplicationGraph_best_chain, defBody s_ImplicationGraph_best_chain, defScope s_ImplicationGraph_best_chain, [], []⟩
def d_graph_of : He.DefD := ⟨("graph_of", none), "graph_of", "graph_of", defArgs s_graph_of, defBody s_graph_of, defScope s_graph_of, [], []⟩
def d_check_literals : He.DefD := ⟨("check_literals", none), "check_literals", "check_literals", defArgs s_check_literals, defBody s_check_literals, defScope s_check_literals, [], []⟩
def d_consequences : He.DefD := ⟨("consequences", none), "consequences", "consequences", defArgs s_consequences, defBody s_consequences, defScope s_consequences, [], []⟩
def d_find_chain : He.DefD := ⟨("find_chain", none), "find_chain", "find_chain", defArgs s_find_chain, defBody s_find_chain, defScope s_find_chain, [], []⟩
def d_find_contradiction : He.DefD := ⟨("find_contradiction", none), "find_contradiction", "find_contradiction", defArgs s_find_contradiction, defBody s_find_contradiction, defScope s_find_contradiction, [], []⟩
def d_check_satisfiable : He.DefD := ⟨("check_satisfiable", none), "check_satisfiable", "check_satisfiable", defArgs s_check_satisfiable, defBody s_check_satisfiable, defScope s_check_satisfiable, [], []⟩
def d_satisfies : He.DefD := ⟨("satisfies", none), "satisfies", "satisfies", defArgs s_satisfies, defBody s_satisfies, defScope s_satisfies, [], []⟩
def d_subsets_by_size : He.DefD := ⟨("subsets_by_size", none), "subsets_by_size", "subsets_by_size", defArgs s_subsets_by_size, defBody s_subsets_by_size, defScope s_subsets_by_size, [], []⟩
def d_accepted_sets : He.DefD := ⟨("accepted_sets", none), "accepted_sets", "accepted_sets", defArgs s_accepted_sets, defBody s_accepted_sets, defScope s_accepted_sets, [], []⟩
def d_always_required : He.DefD := ⟨("always_required", none), "always_required", "always_required", defArgs s_always_required, defBody s_always_required, defScope s_always_required, [], []⟩
def d_never_possible : He.DefD := ⟨("never_possible", none), "never_possible", "never_possible", defArgs s_never_possible, defBody s_never_possible, defScope s_never_possible, [], []⟩
def d_implies_literals : He.DefD := ⟨("implies_literals", none), "implies_literals", "implies_literals", defArgs s_implies_literals, defBody s_implies_literals, defScope s_implies_literals, [], []⟩
def d_are_equivalent : He.DefD := ⟨("are_equivalent", none), "are_equivalent", "are_equivalent", defArgs s_are_equivalent, defBody s_are_equivalent, defScope s_are_equivalent, [], []⟩
def d_option_groups : He.DefD := ⟨("option_groups", none), "option_groups", "option_groups", defArgs s_option_groups, defBody s_option_groups, defScope s_option_groups, [], []⟩
def d_conflict_chain : He.DefD := ⟨("conflict_chain", none), "conflict_chain", "conflict_chain", defArgs s_conflict_chain, defBody s_conflict_chain, defScope s_conflict_chain, [], []⟩
def d_Completion_init : He.DefD := ⟨("Completion", some "__init__"), "__init__", "Completion.__init__", defArgs s_Completion_init, defBody s_Completion_init, defScope s_Completion_init, [], []⟩
def d_Completion_chain_for : He.DefD := ⟨("Completion", some "chain_for"), "chain_for", "Completion.chain_for", defArgs s_Completion_chain_for, defBody s_Completion_chain_for, defScope s_Completion_chain_for, [], []⟩
def d_Completion_verdict : He.DefD := ⟨("Completion", some "verdict"), "verdict", "Completion.verdict", defArgs s_Completion_verdict, defBody s_Completion_verdict, defScope s_Completion_verdict, [], []⟩
def d_completion_of : He.DefD := ⟨("completion_of", none), "completion_of", "completion_of", defArgs s_completion_of, defBody s_completion_of, defScope s_completion_of, [], []⟩
def d_verdicts : He.DefD := ⟨("verdicts", none), "verdicts", "verdicts", defArgs s_verdicts, defBody s_verdicts, defScope s_verdicts, [], []⟩
def d_explain_verdict : He.DefD := ⟨("explain_verdict", none), "explain_verdict", "explain_verdict", defArgs s_explain_verdict, defBody s_explain_verdict, defScope s_explain_verdict, [], []⟩
def d_complete : He.DefD := ⟨("complete", none), "complete", "complete", defArgs s_complete, defBody s_complete, defScope s_complete, [], []⟩
def d_implying_chain : He.DefD := ⟨("implying_chain", none), "implying_chain", "implying_chain", defArgs s_implying_chain, defBody s_implying_chain, defScope s_implying_chain, [], []⟩
def d_implied : He.DefD := ⟨("implied", none), "implied", "implied", defArgs s_implied, defBody s_implied, defScope s_implied, [], []⟩
def d_counterexample : He.DefD := ⟨("counterexample", none), "counterexample", "counterexample", defArgs s_counterexample, defBody s_counterexample, defScope s_counterexample, [], []⟩
def d_is_redundant : He.DefD := ⟨("is_redundant", none), "is_redundant", "is_redundant", defArgs s_is_redundant, defBody s_is_redundant, defScope s_is_redundant, [], []⟩
def d_redundant_clauses : He.DefD := ⟨("redundant_clauses", none), "redundant_clauses", "redundant_clauses", defArgs s_redundant_clauses, defBody s_redundant_clauses, defScope s_redundant_clauses, [], []⟩
def d__law_dice : He.DefD := ⟨("_law_dice", none), "_law_dice", "_law_dice", defArgs s__law_dice, defBody s__law_dice, defScope s__law_dice, [], []⟩
def d__law_next : He.DefD := ⟨("_law_next", none), "_law_next", "_law_next", defArgs s__law_next, defBody s__law_next, defScope s__law_next, [], []⟩
def d__law_like : He.DefD := ⟨("_law_like", none), "_law_like", "_law_like", defArgs s__law_like, defBody s__law_like, defScope s__law_like, [], []⟩
def d__law_pick : He.DefD := ⟨("_law_pick", none), "_law_pick", "_law_pick", defArgs s__law_pick, defBody s__law_pick, defScope s__law_pick, [], []⟩
def d__law_told : He.DefD := ⟨("_law_told", none), "_law_told", "_law_told", defArgs s__law_told, defBody s__law_told, defScope s__law_told, [], []⟩
def d__law_kind : He.DefD := ⟨("_law_kind", none), "_law_kind", "_law_kind", defArgs s__law_kind, defBody s__law_kind, defScope s__law_kind, [], []⟩
def d__law_clauses : He.DefD := ⟨("_law_clauses", none), "_law_clauses", "_law_clauses", defArgs s__law_clauses, defBody s__law_clauses, defScope s__law_clauses, [], []⟩
def d__law_grammar : He.DefD := ⟨("_law_grammar", none), "_law_grammar", "_law_grammar", defArgs s__law_grammar, defBody s__law_grammar, defScope s__law_grammar, [], []⟩
def d__law_names : He.DefD := ⟨("_law_names", none), "_law_names", "_law_names", defArgs s__law_names, defBody s__law_names, defScope s__law_names, [], []⟩
def d__law_given : He.DefD := ⟨("_law_given", none), "_law_given", "_law_given", defArgs s__law_given, defBody s__law_given, defScope s__law_given, [], []⟩
def d__law_calls : He.DefD := ⟨("_law_calls", none), "_law_calls", "_law_calls", defArgs s__law_calls, defBody s__law_calls, defScope s__law_calls, [], []⟩
def d__law_copied : He.DefD := ⟨("_law_copied", none), "_law_copied", "_law_copied", defArgs s__law_copied, defBody s__law_copied, defScope s__law_copied, [], []⟩
def d_law : He.DefD := ⟨("law", none), "law", "law", defArgs s_law, defBody s_law, defScope s_law, [], []⟩
def fn : List He.DefD := [d_InvalidGrammar_init, d_UnknownOption_init, d_InvalidChain_init, d_Conflict_init, d_is_integer, d_is_name, d_is_short_name, d_is_choice_word, d_is_kind, d_is_option, d_check_options, d_is_clause, d_check_grammar, d_names_of, d_option_names, d_check_names, d_check_clause, d_negate, d_literals_of, d_ImplicationGraph_init, d_ImplicationGraph_reachable, d_ImplicationGraph_distances_to, d_ImplicationGraph_shortest_chain, d_ImplicationGraph_best_chain, d_graph_of, d_check_literals, d_consequences, d_find_chain, d_find_contradiction, d_check_satisfiable, d_satisfies, d_subsets_by_size, d_accepted_sets, d_always_required, d_never_possible, d_implies_literals, d_are_equivalent, d_option_groups, d_conflict_chain, d_Completion_init, d_Completion_chain_for, d_Completion_verdict, d_completion_of, d_verdicts, d_explain_verdict, d_complete, d_implying_chain, d_implied, d_counterexample, d_is_redundant, d_redundant_clauses, d__law_dice, d__law_next, d__law_like, d__law_pick, d__law_told, d__law_kind, d__law_clauses, d__law_grammar, d__law_names, d__law_given, d__law_calls, d__law_copied, d_law]
def fa : List He.Fa := [.glo "is_integer",
  .glo "is_name",
  .glo "is_short_name",
  .glo "is_choice_word",
  .glo "is_kind",
  .glo "is_option",
  .glo "check_options",
  .glo "is_clause",
  .glo "check_grammar",
  .glo "names_of",
  .glo "option_names",
  .glo "check_names",
  .glo "check_clause",
  .glo "negate",
  .glo "literals_of",
  .glo "graph_of",
  .glo "check_literals",
  .glo "consequences",
  .glo "find_chain",
  .glo "find_contradiction",
  .glo "check_satisfiable",
  .glo "satisfies",
  .glo "subsets_by_size",
  .glo "accepted_sets",
  .glo "always_required",
  .glo "never_possible",
  .glo "implies_literals",
  .glo "are_equivalent",
  .glo "option_groups",
  .glo "conflict_chain",
  .glo "completion_of",
  .glo "verdicts",
  .glo "explain_verdict",
  .glo "complete",
  .glo "implying_chain",
  .glo "implied",
  .glo "counterexample",
  .glo "is_redundant",
  .glo "redundant_clauses",
  .glo "_law_dice",
  .glo "_law_next",
  .glo "_law_like",
  .glo "_law_pick",
  .glo "_law_told",
  .glo "_law_kind",
  .glo "_law_clauses",
  .glo "_law_grammar",
  .glo "_law_names",
  .glo "_law_given",
  .glo "_law_calls",
  .glo "_law_copied",
  .glo "law",
  .glo "FlagclauseError",
  .glo "InvalidGrammar",
  .glo "UnknownOption",
  .glo "InvalidClause",
  .glo "InvalidChain",
  .glo "Unsatisfiable",
  .glo "Conflict",
  .glo "DifferentOptions",
  .glo "ImplicationGraph",
  .glo "Completion",
  .free "isinstance",
  .free "int",
  .free "bool",
  .free "str",
  .free "tuple",
  .free "list",
  .free "dict",
  .free "len",
  .free "all",
  .free "any",
  .free "set",
  .free "sorted",
  .free "enumerate",
  .free "range",
  .free "ValueError",
  .int "MAX_NAME_LENGTH" 12,
  .int "MAX_OPTIONS" 12,
  .int "MAX_CLAUSES" 60,
  .int "MAX_POSITIONALS" 9,
  .int "MAX_INTEGER" 9999,
  .int "MAX_CHOICES" 8,
  .int "MAX_WORD_LENGTH" 12,
  .str "LETTERS" "abcdefghijklmnopqrstuvwxyz",
  .str "HYPHEN" "-",
  .glo "CLAUSE_WORDS",
  .cls "ImplicationGraph",
  .mkr "ImplicationGraph",
  .cls "Completion",
  .mkr "Completion",
  .noat "ImplicationGraph" "successors",
  .noat "Completion" "graph",
  .noat "Completion" "given",
  .exc "Unsatisfiable",
  .exm "Unsatisfiable" "FlagclauseError" true,
  .exm "Conflict" "FlagclauseError" true,
  .meth "ImplicationGraph" "reachable",
  .meth "ImplicationGraph" "distances_to",
  .meth "ImplicationGraph" "shortest_chain",
  .meth "ImplicationGraph" "best_chain",
  .meth "Completion" "chain_for",
  .meth "Completion" "verdict"]
/-- an own exception class -/
def excB (K : PySem.W.Frag) (C : Addr) : Bool := He.eqO (PySem.W.findIn K (.ref C) "__getattribute__") (some (some (.builtin "BaseException.__getattribute__"))) && (He.eqO (PySem.W.findIn K (.ref C) "__getattr__") (some none) &&
  (decide (PySem.W.subIn K (.ref C) (.type "BaseException") = some true) && (PySem.W.hasDictIn K C && (He.eqO (PySem.W.findIn K (.ref C) "__class__") (some (some (.builtin "object.__class__"))) && (He.eqO (PySem.W.specialIn K (.builtin "object.__class__") "__get__") (some (some (.builtin "getset_descriptor.__get__"))) &&
  (decide (PySem.W.takesIn K (.builtin "object.__class__") = some true) && decide (PySem.W.mroIn K C (.type "object") = some true)))))))
theorem excB_ok {K : PySem.W.Frag} {C : Addr} (h : excB K C = true) : ExcC K C := by
  unfold excB at h
  simp only [Bool.and_eq_true, decide_eq_true_eq] at h
  obtain ⟨h1, h2, h3, h4, h5, h6, h7, h8⟩ := h
  exact ⟨He.eqO_ok h1, He.eqO_ok h2, h3, h4, He.eqO_ok h5, He.eqO_ok h6, h7, h8⟩
def kitB7 (K : PySem.W.Frag) (C : Addr) (y : Str) (b : Bool) : Bool := decide (PySem.W.kitOne K (.ref C) (.ref (He.ga K y)) = some b)
def oexB (K : PySem.W.Frag) (C : Addr) : Bool := (match K.lookup C with
  | some ⟨.type "type", _, .cls cd, sl⟩ => (match cd.mro, sl.toList with
    | .ref C' :: bm, [_, _, _, _, some (.builtin n), _] => C' == C && (n == "ValueError.__new__" && (!cd.hasDel && (cd.hasDict && PySem.HandSPX.refsVE bm)))
    | _, _ => false)
  | _ => false) && (He.eqO (PySem.W.findIn K (.ref C) "__setattr__") (some (some (.builtin "object.__setattr__"))) && (decide (PySem.W.subIn K (.ref C) (.type "BaseException") = some true) && (decide (PySem.W.typeIn K (.ref C) = some (.type "type")) && PySem.W.keepIn K (.ref C))))
theorem oexB_ok {K : PySem.W.Frag} {C : Addr} (h : oexB K C = true) : OexC K C := by
  unfold oexB at h
  simp only [Bool.and_eq_true, decide_eq_true_eq] at h
  obtain ⟨h0, h1, h2, h3, h4⟩ := h
  refine ⟨?_, He.eqO_ok h1, h2, h3, h4⟩
  split at h0
  · rename_i dd cd sl ho
    split at h0
    · rename_i C' bm k0 k1 k2 k3 n k5 hm hs
      simp only [Bool.and_eq_true, beq_iff_eq, Bool.not_eq_true'] at h0
      obtain ⟨rfl, rfl, hdel, hd, hr⟩ := h0
      obtain ⟨nm, bs, mro, ns, qn, hdct, sn, sub, ab, col, del⟩ := cd
      dsimp only at hm hdel hd
      subst hm hdel hd
      have hsl : sl = #[k0, k1, k2, k3, some (.builtin "ValueError.__new__"), k5] := by
        obtain ⟨l⟩ := sl
        simp only at hs
        rw [hs]
      subst hsl
      exact ⟨nm, qn, ns, bs, bm, sn, sub, ab, col, dd, k0, k1, k2, k3, k5, ho, hr⟩
    · cases h0
  · cases h0
def fcB (K : PySem.W.Frag) (C : Addr) : Bool := match PySem.W.findCls K (.ref C) (.type "type") "__init__" with
  | some (.val (.builtin i)) => decide (i = "ValueError.__init__")
  | _ => false
theorem fcB_ok {K : PySem.W.Frag} {C : Addr} (h : fcB K C = true) : PySem.W.findCls K (.ref C) (.type "type") "__init__" = some (.val (.builtin "ValueError.__init__")) := by
  unfold fcB at h
  split at h
  · rename_i i e
    rw [e, of_decide_eq_true h]
  · cases h
def exc7 (K : PySem.W.Frag) (C : Addr) (bs : List (Str × Bool)) : Bool := bs.all fun p => kitB7 K C p.1 p.2
def seven (x : Str) : List (Str × Bool) := [("InvalidGrammar", false), ("UnknownOption", false), ("InvalidClause", false), ("InvalidChain", false), ("Unsatisfiable", decide (x = "Unsatisfiable")), ("Conflict", decide (x = "Conflict")), ("DifferentOptions", false)]
def exU (K : PySem.W.Frag) : Bool := excB K (He.ga K "Unsatisfiable") && (exc7 K (He.ga K "Unsatisfiable") (seven "Unsatisfiable") && decide (PySem.W.kitOne K (.ref (He.ga K "Unsatisfiable")) (.type "ValueError") = some true))
def exC (K : PySem.W.Frag) : Bool := excB K (He.ga K "Conflict") && (exc7 K (He.ga K "Conflict") (seven "Conflict") && decide (PySem.W.kitOne K (.ref (He.ga K "Conflict")) (.type "ValueError") = some true))
def exO (K : PySem.W.Frag) : Bool := oexB K (He.ga K "Conflict") && (He.eqO (PySem.W.findIn K (.ref (He.ga K "Conflict")) "__init__") (some (some (.ref (He.ma K (He.ga K "Conflict") "__init__")))) && (decide (PySem.W.typeIn K (.ref (He.ma K (He.ga K "Conflict") "__init__")) = some (.type "function")) && (He.eqO (PySem.W.findIn K (.ref (He.ga K "Conflict")) "chain") (some none) &&
  (fcB K (He.ga K "FlagclauseError") && (PySem.W.readsIn K (He.ga K "FlagclauseError") (.type "type") && (He.eqO (PySem.W.specialIn K (.ref (He.ga K "FlagclauseError")) "__getattribute__") (some (some (.builtin "type.__getattribute__"))) && PySem.W.keepIn K (.ref (He.ga K "FlagclauseError"))))))))
def exAll (K : PySem.W.Frag) : Bool := He.tupB K "CLAUSE_WORDS" [.str "needs", .str "excludes", .str "either"] && (exU K && (exC K && exO K))
/-- what the written part and the module's names say -/
structure Txt (K : PySem.W.Frag) (mg : Str → Option Value) : Prop where
  s : He.SaysD fa fn K
  h : ∃ h : Heap, K.In h ∧ h.Ns mainGlobals mg
  x : exAll K = true
section
variable {K : PySem.W.Frag} {mg : Str → Option Value}
theorem Txt.x4 (T : Txt K mg) : He.tupB K "CLAUSE_WORDS" [.str "needs", .str "excludes", .str "either"] = true ∧ exU K = true ∧ exC K = true ∧ exO K = true := by
  have h := T.x
  unfold exAll at h
  simpa only [Bool.and_eq_true] using h
theorem Txt.cw (T : Txt K mg) : He.tupB K "CLAUSE_WORDS" [.str "needs", .str "excludes", .str "either"] = true := T.x4.1
theorem Txt.g_is_integer (T : Txt K mg) : mg "is_integer" = some (.ref (He.ga K "is_integer")) := by obtain ⟨h, X, G⟩ := T.h; exact He.glo_ok X G (T.s.fact 0 (f := .glo "is_integer") rfl)
theorem Txt.g_is_name (T : Txt K mg) : mg "is_name" = some (.ref (He.ga K "is_name")) := by obtain ⟨h, X, G⟩ := T.h; exact He.glo_ok X G (T.s.fact 1 (f := .glo "is_name") rfl)
theorem Txt.g_is_short_name (T : Txt K mg) : mg "is_short_name" = some (.ref (He.ga K "is_short_name")) := by obtain ⟨h, X, G⟩ := T.h; exact He.glo_ok X G (T.s.fact 2 (f := .glo "is_short_name") rfl)
theorem Txt.g_is_choice_word (T : Txt K mg) : mg "is_choice_word" = some (.ref (He.ga K "is_choice_word")) := by obtain ⟨h, X, G⟩ := T.h; exact He.glo_ok X G (T.s.fact 3 (f := .glo "is_choice_word") rfl)
theorem Txt.g_is_kind (T : Txt K mg) : mg "is_kind" = some (.ref (He.ga K "is_kind")) := by obtain ⟨h, X, G⟩ := T.h; exact He.glo_ok X G (T.s.fact 4 (f := .glo "is_kind") rfl)
theorem Txt.g_is_option (T : Txt K mg) : mg "is_option" = some (.ref (He.ga K "is_option")) := by obtain ⟨h, X, G⟩ := T.h; exact He.glo_ok X G (T.s.fact 5 (f := .glo "is_option") rfl)
theorem Txt.g_check_options (T : Txt K mg) : mg "check_options" = some (.ref (He.ga K "check_options")) := by obtain ⟨h, X, G⟩ := T.h; exact He.glo_ok X G (T.s.fact 6 (f := .glo "check_options") rfl)
theorem Txt.g_is_clause (T : Txt K mg) : mg "is_clause" = some (.ref (He.ga K "is_clause")) := by obtain ⟨h, X, G⟩ := T.h; exact He.glo_ok X G (T.s.fact 7 (f := .glo "is_clause") rfl)
theorem Txt.g_check_grammar (T : Txt K mg) : mg "check_grammar" = some (.ref (He.ga K "check_grammar")) := by obtain ⟨h, X, G⟩ := T.h; exact He.glo_ok X G (T.s.fact 8 (f := .glo "check_grammar") rfl)
theorem Txt.g_names_of (T : Txt K mg) : mg "names_of" = some (.ref (He.ga K "names_of")) := by obtain ⟨h, X, G⟩ := T.h; exact He.glo_ok X G (T.s.fact 9 (f := .glo "names_of") rfl)
theorem Txt.g_option_names (T : Txt K mg) : mg "option_names" = some (.ref (He.ga K "option_names")) := by obtain ⟨h, X, G⟩ := T.h; exact He.glo_ok X G (T.s.fact 10 (f := .glo "option_names") rfl)
theorem Txt.g_check_names (T : Txt K mg) : mg "check_names" = some (.ref (He.ga K "check_names")) := by obtain ⟨h, X, G⟩ := T.h; exact He.glo_ok X G (T.s.fact 11 (f := .glo "check_names") rfl)
theorem Txt.g_check_clause (T : Txt K mg) : mg "check_clause" = some (.ref (He.ga K "check_clause")) := by obtain ⟨h, X, G⟩ := T.h; exact He.glo_ok X G (T.s.fact 12 (f := .glo "check_clause") rfl)
theorem Txt.g_negate (T : Txt K mg) : mg "negate" = some (.ref (He.ga K "negate")) := by obtain ⟨h, X, G⟩ := T.h; exact He.glo_ok X G (T.s.fact 13 (f := .glo "negate") rfl)
theorem Txt.g_literals_of (T : Txt K mg) : mg "literals_of" = some (.ref (He.ga K "literals_of")) := by obtain ⟨h, X, G⟩ := T.h; exact He.glo_ok X G (T.s.fact 14 (f := .glo "literals_of") rfl)
theorem Txt.g_graph_of (T : Txt K mg) : mg "graph_of" = some (.ref (He.ga K "graph_of")) := by obtain ⟨h, X, G⟩ := T.h; exact He.glo_ok X G (T.s.fact 15 (f := .glo "graph_of") rfl)
theorem Txt.g_check_literals (T : Txt K mg) : mg "check_literals" = some (.ref (He.ga K "check_literals")) := by obtain ⟨h, X, G⟩ := T.h; exact He.glo_ok X G (T.s.fact 16 (f := .glo "check_literals") rfl)
theorem Txt.g_consequences (T : Txt K mg) : mg "consequences" = some (.ref (He.ga K "consequences")) := by obtain ⟨h, X, G⟩ := T.h; exact He.glo_ok X G (T.s.fact 17 (f := .glo "consequences") rfl)
theorem Txt.g_find_chain (T : Txt K mg) : mg "find_chain" = some (.ref (He.ga K "find_chain")) := by obtain ⟨h, X, G⟩ := T.h; exact He.glo_ok X G (T.s.fact 18 (f := .glo "find_chain") rfl)
theorem Txt.g_find_contradiction (T : Txt K mg) : mg "find_contradiction" = some (.ref (He.ga K "find_contradiction")) := by obtain ⟨h, X, G⟩ := T.h; exact He.glo_ok X G (T.s.fact 19 (f := .glo "find_contradiction") rfl)
theorem Txt.g_check_satisfiable (T : Txt K mg) : mg "check_satisfiable" = some (.ref (He.ga K "check_satisfiable")) := by obtain ⟨h, X, G⟩ := T.h; exact He.glo_ok X G (T.s.fact 20 (f := .glo "check_satisfiable") rfl)
theorem Txt.g_satisfies (T : Txt K mg) : mg "satisfies" = some (.ref (He.ga K "satisfies")) := by obtain ⟨h, X, G⟩ := T.h; exact He.glo_ok X G (T.s.fact 21 (f := .glo "satisfies") rfl)
theorem Txt.g_subsets_by_size (T : Txt K mg) : mg "subsets_by_size" = some (.ref (He.ga K "subsets_by_size")) := by obtain ⟨h, X, G⟩ := T.h; exact He.glo_ok X G (T.s.fact 22 (f := .glo "subsets_by_size") rfl)
theorem Txt.g_accepted_sets (T : Txt K mg) : mg "accepted_sets" = some (.ref (He.ga K "accepted_sets")) := by obtain ⟨h, X, G⟩ := T.h; exact He.glo_ok X G (T.s.fact 23 (f := .glo "accepted_sets") rfl)
theorem Txt.g_always_required (T : Txt K mg) : mg "always_required" = some (.ref (He.ga K "always_required")) := by obtain ⟨h, X, G⟩ := T.h; exact He.glo_ok X G (T.s.fact 24 (f := .glo "always_required") rfl)
theorem Txt.g_never_possible (T : Txt K mg) : mg "never_possible" = some (.ref (He.ga K "never_possible")) := by obtain ⟨h, X, G⟩ := T.h; exact He.glo_ok X G (T.s.fact 25 (f := .glo "never_possible") rfl)
theorem Txt.g_implies_literals (T : Txt K mg) : mg "implies_literals" = some (.ref (He.ga K "implies_literals")) := by obtain ⟨h, X, G⟩ := T.h; exact He.glo_ok X G (T.s.fact 26 (f := .glo "implies_literals") rfl)
theorem Txt.g_are_equivalent (T : Txt K mg) : mg "are_equivalent" = some (.ref (He.ga K "are_equivalent")) := by obtain ⟨h, X, G⟩ := T.h; exact He.glo_ok X G (T.s.fact 27 (f := .glo "are_equivalent") rfl)
theorem Txt.g_option_groups (T : Txt K mg) : mg "option_groups" = some (.ref (He.ga K "option_groups")) := by obtain ⟨h, X, G⟩ := T.h; exact He.glo_ok X G (T.s.fact 28 (f := .glo "option_groups") rfl)
theorem Txt.g_conflict_chain (T : Txt K mg) : mg "conflict_chain" = some (.ref (He.ga K "conflict_chain")) := by obtain ⟨h, X, G⟩ := T.h; exact He.glo_ok X G (T.s.fact 29 (f := .glo "conflict_chain") rfl)
theorem Txt.g_completion_of (T : Txt K mg) : mg "completion_of" = some (.ref (He.ga K "completion_of")) := by obtain ⟨h, X, G⟩ := T.h; exact He.glo_ok X G (T.s.fact 30 (f := .glo "completion_of") rfl)
theorem Txt.g_verdicts (T : Txt K mg) : mg "verdicts" = some (.ref (He.ga K "verdicts")) := by obtain ⟨h, X, G⟩ := T.h; exact He.glo_ok X G (T.s.fact 31 (f := .glo "verdicts") rfl)
theorem Txt.g_explain_verdict (T : Txt K mg) : mg "explain_verdict" = some (.ref (He.ga K "explain_verdict")) := by obtain ⟨h, X, G⟩ := T.h; exact He.glo_ok X G (T.s.fact 32 (f := .glo "explain_verdict") rfl)
theorem Txt.g_complete (T : Txt K mg) : mg "complete" = some (.ref (He.ga K "complete")) := by obtain ⟨h, X, G⟩ := T.h; exact He.glo_ok X G (T.s.fact 33 (f := .glo "complete") rfl)
theorem Txt.g_implying_chain (T : Txt K mg) : mg "implying_chain" = some (.ref (He.ga K "implying_chain")) := by obtain ⟨h, X, G⟩ := T.h; exact He.glo_ok X G (T.s.fact 34 (f := .glo "implying_chain") rfl)
theorem Txt.g_implied (T : Txt K mg) : mg "implied" = some (.ref (He.ga K "implied")) := by obtain ⟨h, X, G⟩ := T.h; exact He.glo_ok X G (T.s.fact 35 (f := .glo "implied") rfl)
theorem Txt.g_counterexample (T : Txt K mg) : mg "counterexample" = some (.ref (He.ga K "counterexample")) := by obtain ⟨h, X, G⟩ := T.h; exact He.glo_ok X G (T.s.fact 36 (f := .glo "counterexample") rfl)
theorem Txt.g_is_redundant (T : Txt K mg) : mg "is_redundant" = some (.ref (He.ga K "is_redundant")) := by obtain ⟨h, X, G⟩ := T.h; exact He.glo_ok X G (T.s.fact 37 (f := .glo "is_redundant") rfl)
theorem Txt.g_redundant_clauses (T : Txt K mg) : mg "redundant_clauses" = some (.ref (He.ga K "redundant_clauses")) := by obtain ⟨h, X, G⟩ := T.h; exact He.glo_ok X G (T.s.fact 38 (f := .glo "redundant_clauses") rfl)
theorem Txt.g__law_dice (T : Txt K mg) : mg "_law_dice" = some (.ref (He.ga K "_law_dice")) := by obtain ⟨h, X, G⟩ := T.h; exact He.glo_ok X G (T.s.fact 39 (f := .glo "_law_dice") rfl)
theorem Txt.g__law_next (T : Txt K mg) : mg "_law_next" = some (.ref (He.ga K "_law_next")) := by obtain ⟨h, X, G⟩ := T.h; exact He.glo_ok X G (T.s.fact 40 (f := .glo "_law_next") rfl)
theorem Txt.g__law_like (T : Txt K mg) : mg "_law_like" = some (.ref (He.ga K "_law_like")) := by obtain ⟨h, X, G⟩ := T.h; exact He.glo_ok X G (T.s.fact 41 (f := .glo "_law_like") rfl)
theorem Txt.g__law_pick (T : Txt K mg) : mg "_law_pick" = some (.ref (He.ga K "_law_pick")) := by obtain ⟨h, X, G⟩ := T.h; exact He.glo_ok X G (T.s.fact 42 (f := .glo "_law_pick") rfl)
theorem Txt.g__law_told (T : Txt K mg) : mg "_law_told" = some (.ref (He.ga K "_law_told")) := by obtain ⟨h, X, G⟩ := T.h; exact He.glo_ok X G (T.s.fact 43 (f := .glo "_law_told") rfl)
theorem Txt.g__law_kind (T : Txt K mg) : mg "_law_kind" = some (.ref (He.ga K "_law_kind")) := by obtain ⟨h, X, G⟩ := T.h; exact He.glo_ok X G (T.s.fact 44 (f := .glo "_law_kind") rfl)
theorem Txt.g__law_clauses (T : Txt K mg) : mg "_law_clauses" = some (.ref (He.ga K "_law_clauses")) := by obtain ⟨h, X, G⟩ := T.h; exact He.glo_ok X G (T.s.fact 45 (f := .glo "_law_clauses") rfl)
theorem Txt.g__law_grammar (T : Txt K mg) : mg "_law_grammar" = some (.ref (He.ga K "_law_grammar")) := by obtain ⟨h, X, G⟩ := T.h; exact He.glo_ok X G (T.s.fact 46 (f := .glo "_law_grammar") rfl)
theorem Txt.g__law_names (T : Txt K mg) : mg "_law_names" = some (.ref (He.ga K "_law_names")) := by obtain ⟨h, X, G⟩ := T.h; exact He.glo_ok X G (T.s.fact 47 (f := .glo "_law_names") rfl)
theorem Txt.g__law_given (T : Txt K mg) : mg "_law_given" = some (.ref (He.ga K "_law_given")) := by obtain ⟨h, X, G⟩ := T.h; exact He.glo_ok X G (T.s.fact 48 (f := .glo "_law_given") rfl)
theorem Txt.g__law_calls (T : Txt K mg) : mg "_law_calls" = some (.ref (He.ga K "_law_calls")) := by obtain ⟨h, X, G⟩ := T.h; exact He.glo_ok X G (T.s.fact 49 (f := .glo "_law_calls") rfl)
theorem Txt.g__law_copied (T : Txt K mg) : mg "_law_copied" = some (.ref (He.ga K "_law_copied")) := by obtain ⟨h, X, G⟩ := T.h; exact He.glo_ok X G (T.s.fact 50 (f := .glo "_law_copied") rfl)
theorem Txt.g_law (T : Txt K mg) : mg "law" = some (.ref (He.ga K "law")) := by obtain ⟨h, X, G⟩ := T.h; exact He.glo_ok X G (T.s.fact 51 (f := .glo "law") rfl)
theorem Txt.g_FlagclauseError (T : Txt K mg) : mg "FlagclauseError" = some (.ref (He.ga K "FlagclauseError")) := by obtain ⟨h, X, G⟩ := T.h; exact He.glo_ok X G (T.s.fact 52 (f := .glo "FlagclauseError") rfl)
theorem Txt.g_InvalidGrammar (T : Txt K mg) : mg "InvalidGrammar" = some (.ref (He.ga K "InvalidGrammar")) := by obtain ⟨h, X, G⟩ := T.h; exact He.glo_ok X G (T.s.fact 53 (f := .glo "InvalidGrammar") rfl)
theorem Txt.g_UnknownOption (T : Txt K mg) : mg "UnknownOption" = some (.ref (He.ga K "UnknownOption")) := by obtain ⟨h, X, G⟩ := T.h; exact He.glo_ok X G (T.s.fact 54 (f := .glo "UnknownOption") rfl)
theorem Txt.g_InvalidClause (T : Txt K mg) : mg "InvalidClause" = some (.ref (He.ga K "InvalidClause")) := by obtain ⟨h, X, G⟩ := T.h; exact He.glo_ok X G (T.s.fact 55 (f := .glo "InvalidClause") rfl)
theorem Txt.g_InvalidChain (T : Txt K mg) : mg "InvalidChain" = some (.ref (He.ga K "InvalidChain")) := by obtain ⟨h, X, G⟩ := T.h; exact He.glo_ok X G (T.s.fact 56 (f := .glo "InvalidChain") rfl)
theorem Txt.g_Unsatisfiable (T : Txt K mg) : mg "Unsatisfiable" = some (.ref (He.ga K "Unsatisfiable")) := by obtain ⟨h, X, G⟩ := T.h; exact He.glo_ok X G (T.s.fact 57 (f := .glo "Unsatisfiable") rfl)
theorem Txt.g_Conflict (T : Txt K mg) : mg "Conflict" = some (.ref (He.ga K "Conflict")) := by obtain ⟨h, X, G⟩ := T.h; exact He.glo_ok X G (T.s.fact 58 (f := .glo "Conflict") rfl)
theorem Txt.g_DifferentOptions (T : Txt K mg) : mg "DifferentOptions" = some (.ref (He.ga K "DifferentOptions")) := by obtain ⟨h, X, G⟩ := T.h; exact He.glo_ok X G (T.s.fact 59 (f := .glo "DifferentOptions") rfl)
theorem Txt.g_ImplicationGraph (T : Txt K mg) : mg "ImplicationGraph" = some (.ref (He.ga K "ImplicationGraph")) := by obtain ⟨h, X, G⟩ := T.h; exact He.glo_ok X G (T.s.fact 60 (f := .glo "ImplicationGraph") rfl)
theorem Txt.g_Completion (T : Txt K mg) : mg "Completion" = some (.ref (He.ga K "Completion")) := by obtain ⟨h, X, G⟩ := T.h; exact He.glo_ok X G (T.s.fact 61 (f := .glo "Completion") rfl)
theorem Txt.f_isinstance (T : Txt K mg) : mg "isinstance" = none := by obtain ⟨h, X, G⟩ := T.h; exact He.free_ok X G (T.s.fact 62 (f := .free "isinstance") rfl)
theorem Txt.f_int (T : Txt K mg) : mg "int" = none := by obtain ⟨h, X, G⟩ := T.h; exact He.free_ok X G (T.s.fact 63 (f := .free "int") rfl)
theorem Txt.f_bool (T : Txt K mg) : mg "bool" = none := by obtain ⟨h, X, G⟩ := T.h; exact He.free_ok X G (T.s.fact 64 (f := .free "bool") rfl)
theorem Txt.f_str (T : Txt K mg) : mg "str" = none := by obtain ⟨h, X, G⟩ := T.h; exact He.free_ok X G (T.s.fact 65 (f := .free "str") rfl)
theorem Txt.f_tuple (T : Txt K mg) : mg "tuple" = none := by obtain ⟨h, X, G⟩ := T.h; exact He.free_ok X G (T.s.fact 66 (f := .free "tuple") rfl)
theorem Txt.f_list (T : Txt K mg) : mg "list" = none := by obtain ⟨h, X, G⟩ := T.h; exact He.free_ok X G (T.s.fact 67 (f := .free "list") rfl)
theorem Txt.f_dict (T : Txt K mg) : mg "dict" = none := by obtain ⟨h, X, G⟩ := T.h; exact He.free_ok X G (T.s.fact 68 (f := .free "dict") rfl)
theorem Txt.f_len (T : Txt K mg) : mg "len" = none := by obtain ⟨h, X, G⟩ := T.h; exact He.free_ok X G (T.s.fact 69 (f := .free "len") rfl)
theorem Txt.f_all (T : Txt K mg) : mg "all" = none := by obtain ⟨h, X, G⟩ := T.h; exact He.free_ok X G (T.s.fact 70 (f := .free "all") rfl)
theorem Txt.f_any (T : Txt K mg) : mg "any" = none := by obtain ⟨h, X, G⟩ := T.h; exact He.free_ok X G (T.s.fact 71 (f := .free "any") rfl)
theorem Txt.f_set (T : Txt K mg) : mg "set" = none := by obtain ⟨h, X, G⟩ := T.h; exact He.free_ok X G (T.s.fact 72 (f := .free "set") rfl)
theorem Txt.f_sorted (T : Txt K mg) : mg "sorted" = none := by obtain ⟨h, X, G⟩ := T.h; exact He.free_ok X G (T.s.fact 73 (f := .free "sorted") rfl)
theorem Txt.f_enumerate (T : Txt K mg) : mg "enumerate" = none := by obtain ⟨h, X, G⟩ := T.h; exact He.free_ok X G (T.s.fact 74 (f := .free "enumerate") rfl)
theorem Txt.f_range (T : Txt K mg) : mg "range" = none := by obtain ⟨h, X, G⟩ := T.h; exact He.free_ok X G (T.s.fact 75 (f := .free "range") rfl)
theorem Txt.f_ValueError (T : Txt K mg) : mg "ValueError" = none := by obtain ⟨h, X, G⟩ := T.h; exact He.free_ok X G (T.s.fact 76 (f := .free "ValueError") rfl)
theorem Txt.i_MAX_NAME_LENGTH (T : Txt K mg) : ∃ t, mg "MAX_NAME_LENGTH" = some (.int 12 t) := by obtain ⟨h, X, G⟩ := T.h; exact He.int_ok X G (T.s.fact 77 (f := .int "MAX_NAME_LENGTH" 12) rfl)
theorem Txt.i_MAX_OPTIONS (T : Txt K mg) : ∃ t, mg "MAX_OPTIONS" = some (.int 12 t) := by obtain ⟨h, X, G⟩ := T.h; exact He.int_ok X G (T.s.fact 78 (f := .int "MAX_OPTIONS" 12) rfl)
theorem Txt.i_MAX_CLAUSES (T : Txt K mg) : ∃ t, mg "MAX_CLAUSES" = some (.int 60 t) := by obtain ⟨h, X, G⟩ := T.h; exact He.int_ok X G (T.s.fact 79 (f := .int "MAX_CLAUSES" 60) rfl)
theorem Txt.i_MAX_POSITIONALS (T : Txt K mg) : ∃ t, mg "MAX_POSITIONALS" = some (.int 9 t) := by obtain ⟨h, X, G⟩ := T.h; exact He.int_ok X G (T.s.fact 80 (f := .int "MAX_POSITIONALS" 9) rfl)
theorem Txt.i_MAX_INTEGER (T : Txt K mg) : ∃ t, mg "MAX_INTEGER" = some (.int 9999 t) := by obtain ⟨h, X, G⟩ := T.h; exact He.int_ok X G (T.s.fact 81 (f := .int "MAX_INTEGER" 9999) rfl)
theorem Txt.i_MAX_CHOICES (T : Txt K mg) : ∃ t, mg "MAX_CHOICES" = some (.int 8 t) := by obtain ⟨h, X, G⟩ := T.h; exact He.int_ok X G (T.s.fact 82 (f := .int "MAX_CHOICES" 8) rfl)
theorem Txt.i_MAX_WORD_LENGTH (T : Txt K mg) : ∃ t, mg "MAX_WORD_LENGTH" = some (.int 12 t) := by obtain ⟨h, X, G⟩ := T.h; exact He.int_ok X G (T.s.fact 83 (f := .int "MAX_WORD_LENGTH" 12) rfl)
theorem Txt.t_LETTERS (T : Txt K mg) : ∃ t, mg "LETTERS" = some (.str "abcdefghijklmnopqrstuvwxyz" t) := by obtain ⟨h, X, G⟩ := T.h; exact He.str_ok X G (T.s.fact 84 (f := .str "LETTERS" "abcdefghijklmnopqrstuvwxyz") rfl)
theorem Txt.t_HYPHEN (T : Txt K mg) : ∃ t, mg "HYPHEN" = some (.str "-" t) := by obtain ⟨h, X, G⟩ := T.h; exact He.str_ok X G (T.s.fact 85 (f := .str "HYPHEN" "-") rfl)
theorem Txt.g_CLAUSE_WORDS (T : Txt K mg) : mg "CLAUSE_WORDS" = some (.ref (He.ga K "CLAUSE_WORDS")) := by obtain ⟨h, X, G⟩ := T.h; exact He.glo_ok X G (T.s.fact 86 (f := .glo "CLAUSE_WORDS") rfl)
theorem Txt.c_ImplicationGraph (T : Txt K mg) : Cls K (He.ga K "ImplicationGraph") := He.cls_ok (T.s.fact 87 (f := .cls "ImplicationGraph") rfl)
theorem Txt.k_ImplicationGraph (T : Txt K mg) : Mk K (He.ga K "ImplicationGraph") (He.ma K (He.ga K "ImplicationGraph") "__init__") := He.mkr_ok (T.s.fact 88 (f := .mkr "ImplicationGraph") rfl)
theorem Txt.c_Completion (T : Txt K mg) : Cls K (He.ga K "Completion") := He.cls_ok (T.s.fact 89 (f := .cls "Completion") rfl)
theorem Txt.k_Completion (T : Txt K mg) : Mk K (He.ga K "Completion") (He.ma K (He.ga K "Completion") "__init__") := He.mkr_ok (T.s.fact 90 (f := .mkr "Completion") rfl)
theorem Txt.n_ImplicationGraph_successors (T : Txt K mg) : NoAttr K (He.ga K "ImplicationGraph") "successors" := He.noat_ok (T.s.fact 91 (f := .noat "ImplicationGraph" "successors") rfl)
theorem Txt.n_Completion_graph (T : Txt K mg) : NoAttr K (He.ga K "Completion") "graph" := He.noat_ok (T.s.fact 92 (f := .noat "Completion" "graph") rfl)
theorem Txt.n_Completion_given (T : Txt K mg) : NoAttr K (He.ga K "Completion") "given" := He.noat_ok (T.s.fact 93 (f := .noat "Completion" "given") rfl)
theorem Txt.x_Unsatisfiable (T : Txt K mg) : PySem.W.excIn K (He.ga K "Unsatisfiable") He.veBase "ValueError.__new__" = true ∧ PySem.W.keepIn K (.ref (He.ga K "Unsatisfiable")) = true ∧ PySem.W.subIn K (.ref (He.ga K "Unsatisfiable")) (.type "BaseException") = some true ∧ PySem.W.typeIn K (.ref (He.ga K "Unsatisfiable")) = some (.type "type") := He.exc_ok (T.s.fact 94 (f := .exc "Unsatisfiable") rfl)
theorem Txt.e_Unsatisfiable (T : Txt K mg) : PySem.W.exmOne K (.ref (He.ga K "Unsatisfiable")) (.ref (He.ga K "FlagclauseError")) = some true := He.exm_ok (T.s.fact 95 (f := .exm "Unsatisfiable" "FlagclauseError" true) rfl)
theorem Txt.e_Conflict (T : Txt K mg) : PySem.W.exmOne K (.ref (He.ga K "Conflict")) (.ref (He.ga K "FlagclauseError")) = some true := He.exm_ok (T.s.fact 96 (f := .exm "Conflict" "FlagclauseError" true) rfl)
theorem Txt.m_ImplicationGraph_reachable (T : Txt K mg) : Meth K (He.ga K "ImplicationGraph") "reachable" (He.ma K (He.ga K "ImplicationGraph") "reachable") := He.meth_ok (T.s.fact 97 (f := .meth "ImplicationGraph" "reachable") rfl)
theorem Txt.m_ImplicationGraph_distances_to (T : Txt K mg) : Meth K (He.ga K "ImplicationGraph") "distances_to" (He.ma K (He.ga K "ImplicationGraph") "distances_to") := He.meth_ok (T.s.fact 98 (f := .meth "ImplicationGraph" "distances_to") rfl)
theorem Txt.m_ImplicationGraph_shortest_chain (T : Txt K mg) : Meth K (He.ga K "ImplicationGraph") "shortest_chain" (He.ma K (He.ga K "ImplicationGraph") "shortest_chain") := He.meth_ok (T.s.fact 99 (f := .meth "ImplicationGraph" "shortest_chain") rfl)
theorem Txt.m_ImplicationGraph_best_chain (T : Txt K mg) : Meth K (He.ga K "ImplicationGraph") "best_chain" (He.ma K (He.ga K "ImplicationGraph") "best_chain") := He.meth_ok (T.s.fact 100 (f := .meth "ImplicationGraph" "best_chain") rfl)
theorem Txt.m_Completion_chain_for (T : Txt K mg) : Meth K (He.ga K "Completion") "chain_for" (He.ma K (He.ga K "Completion") "chain_for") := He.meth_ok (T.s.fact 101 (f := .meth "Completion" "chain_for") rfl)
theorem Txt.m_Completion_verdict (T : Txt K mg) : Meth K (He.ga K "Completion") "verdict" (He.ma K (He.ga K "Completion") "verdict") := He.meth_ok (T.s.fact 102 (f := .meth "Completion" "verdict") rfl)
abbrev p_InvalidGrammar_init : List Str := ["self", "part", "index"]
theorem Txt.D_InvalidGrammar_init (T : Txt K mg) : ∃ fd, FunD K "__init__" "InvalidGrammar.__init__" (defArgs s_InvalidGrammar_init) (defBody s_InvalidGrammar_init) (defScope s_InvalidGrammar_init) [] [] (He.ma K (He.ga K "InvalidGrammar") "__init__") fd ∧ Binds K fd p_InvalidGrammar_init [] := by
  obtain ⟨fd, F⟩ := T.s.def_ 0 (d := d_InvalidGrammar_init) rfl
  exact ⟨fd, F, FunD.bindsN F fun _ _ _ _ _ _ us hl => match us, hl with | [_, _, _], _ => rfl⟩
abbrev p_UnknownOption_init : List Str := ["self", "name"]
theorem Txt.D_UnknownOption_init (T : Txt K mg) : ∃ fd, FunD K "__init__" "UnknownOption.__init__" (defArgs s_UnknownOption_init) (defBody s_UnknownOption_init) (defScope s_UnknownOption_init) [] [] (He.ma K (He.ga K "UnknownOption") "__init__") fd ∧ Binds K fd p_UnknownOption_init [] := by
  obtain ⟨fd, F⟩ := T.s.def_ 1 (d := d_UnknownOption_init) rfl
  exact ⟨fd, F, FunD.bindsN F fun _ _ _ _ _ _ us hl => match us, hl with | [_, _], _ => rfl⟩
abbrev p_InvalidChain_init : List Str := ["self", "index"]
theorem Txt.D_InvalidChain_init (T : Txt K mg) : ∃ fd, FunD K "__init__" "InvalidChain.__init__" (defArgs s_InvalidChain_init) (defBody s_InvalidChain_init) (defScope s_InvalidChain_init) [] [] (He.ma K (He.ga K "InvalidChain") "__init__") fd ∧ Binds K fd p_InvalidChain_init [] := by
  obtain ⟨fd, F⟩ := T.s.def_ 2 (d := d_InvalidChain_init) rfl
  exact ⟨fd, F, FunD.bindsN F fun _ _ _ _ _ _ us hl => match us, hl with | [_, _], _ => rfl⟩
abbrev p_Conflict_init : List Str := ["self", "chain"]
theorem Txt.D_Conflict_init (T : Txt K mg) : ∃ fd, FunD K "__init__" "Conflict.__init__" (defArgs s_Conflict_init) (defBody s_Conflict_init) (defScope s_Conflict_init) [] [] (He.ma K (He.ga K "Conflict") "__init__") fd ∧ Binds K fd p_Conflict_init [] := by
  obtain ⟨fd, F⟩ := T.s.def_ 3 (d := d_Conflict_init) rfl
  exact ⟨fd, F, FunD.bindsN F fun _ _ _ _ _ _ us hl => match us, hl with | [_, _], _ => rfl⟩
abbrev p_is_integer : List Str := ["value", "low", "high"]
theorem Txt.D_is_integer (T : Txt K mg) : ∃ fd, FunD K "is_integer" "is_integer" (defArgs s_is_integer) (defBody s_is_integer) (defScope s_is_integer) [] [] (He.ga K "is_integer") fd ∧ Binds K fd p_is_integer [] := by
  obtain ⟨fd, F⟩ := T.s.def_ 4 (d := d_is_integer) rfl
  exact ⟨fd, F, FunD.bindsN F fun _ _ _ _ _ _ us hl => match us, hl with | [_, _, _], _ => rfl⟩
abbrev p_is_name : List Str := ["value"]
theorem Txt.D_is_name (T : Txt K mg) : ∃ fd, FunD K "is_name" "is_name" (defArgs s_is_name) (defBody s_is_name) (defScope s_is_name) [] [] (He.ga K "is_name") fd ∧ Binds K fd p_is_name [] := by
  obtain ⟨fd, F⟩ := T.s.def_ 5 (d := d_is_name) rfl
  exact ⟨fd, F, FunD.bindsN F fun _ _ _ _ _ _ us hl => match us, hl with | [_], _ => rfl⟩
abbrev p_is_short_name : List Str := ["value"]
theorem Txt.D_is_short_name (T : Txt K mg) : ∃ fd, FunD K "is_short_name" "is_short_name" (defArgs s_is_short_name) (defBody s_is_short_name) (defScope s_is_short_name) [] [] (He.ga K "is_short_name") fd ∧ Binds K fd p_is_short_name [] := by
  obtain ⟨fd, F⟩ := T.s.def_ 6 (d := d_is_short_name) rfl
  exact ⟨fd, F, FunD.bindsN F fun _ _ _ _ _ _ us hl => match us, hl with | [_], _ => rfl⟩
abbrev p_is_choice_word : List Str := ["value"]
theorem Txt.D_is_choice_word (T : Txt K mg) : ∃ fd, FunD K "is_choice_word" "is_choice_word" (defArgs s_is_choice_word) (defBody s_is_choice_word) (defScope s_is_choice_word) [] [] (He.ga K "is_choice_word") fd ∧ Binds K fd p_is_choice_word [] := by
  obtain ⟨fd, F⟩ := T.s.def_ 7 (d := d_is_choice_word) rfl
  exact ⟨fd, F, FunD.bindsN F fun _ _ _ _ _ _ us hl => match us, hl with | [_], _ => rfl⟩
abbrev p_is_kind : List Str := ["value"]
theorem Txt.D_is_kind (T : Txt K mg) : ∃ fd, FunD K "is_kind" "is_kind" (defArgs s_is_kind) (defBody s_is_kind) (defScope s_is_kind) [] [] (He.ga K "is_kind") fd ∧ Binds K fd p_is_kind [] := by
  obtain ⟨fd, F⟩ := T.s.def_ 8 (d := d_is_kind) rfl
  exact ⟨fd, F, FunD.bindsN F fun _ _ _ _ _ _ us hl => match us, hl with | [_], _ => rfl⟩
abbrev p_is_option : List Str := ["value"]
theorem Txt.D_is_option (T : Txt K mg) : ∃ fd, FunD K "is_option" "is_option" (defArgs s_is_option) (defBody s_is_option) (defScope s_is_option) [] [] (He.ga K "is_option") fd ∧ Binds K fd p_is_option [] := by
  obtain ⟨fd, F⟩ := T.s.def_ 9 (d := d_is_option) rfl
  exact ⟨fd, F, FunD.bindsN F fun _ _ _ _ _ _ us hl => match us, hl with | [_], _ => rfl⟩
abbrev p_check_options : List Str := ["options"]
theorem Txt.D_check_options (T : Txt K mg) : ∃ fd, FunD K "check_options" "check_options" (defArgs s_check_options) (defBody s_check_options) (defScope s_check_options) [] [] (He.ga K "check_options") fd ∧ Binds K fd p_check_options [] := by
  obtain ⟨fd, F⟩ := T.s.def_ 10 (d := d_check_options) rfl
  exact ⟨fd, F, FunD.bindsN F fun _ _ _ _ _ _ us hl => match us, hl with | [_], _ => rfl⟩
abbrev p_is_clause : List Str := ["names", "clause"]
theorem Txt.D_is_clause (T : Txt K mg) : ∃ fd, FunD K "is_clause" "is_clause" (defArgs s_is_clause) (defBody s_is_clause) (defScope s_is_clause) [] [] (He.ga K "is_clause") fd ∧ Binds K fd p_is_clause [] := by
  obtain ⟨fd, F⟩ := T.s.def_ 11 (d := d_is_clause) rfl
  exact ⟨fd, F, FunD.bindsN F fun _ _ _ _ _ _ us hl => match us, hl with | [_, _], _ => rfl⟩
abbrev p_check_grammar : List Str := ["grammar"]
theorem Txt.D_check_grammar (T : Txt K mg) : ∃ fd, FunD K "check_grammar" "check_grammar" (defArgs s_check_grammar) (defBody s_check_grammar) (defScope s_check_grammar) [] [] (He.ga K "check_grammar") fd ∧ Binds K fd p_check_grammar [] := by
  obtain ⟨fd, F⟩ := T.s.def_ 12 (d := d_check_grammar) rfl
  exact ⟨fd, F, FunD.bindsN F fun _ _ _ _ _ _ us hl => match us, hl with | [_], _ => rfl⟩
abbrev p_names_of : List Str := ["grammar"]
theorem Txt.D_names_of (T : Txt K mg) : ∃ fd, FunD K "names_of" "names_of" (defArgs s_names_of) (defBody s_names_of) (defScope s_names_of) [] [] (He.ga K "names_of") fd ∧ Binds K fd p_names_of [] := by
  obtain ⟨fd, F⟩ := T.s.def_ 13 (d := d_names_of) rfl
  exact ⟨fd, F, FunD.bindsN F fun _ _ _ _ _ _ us hl => match us, hl with | [_], _ => rfl⟩
abbrev p_option_names : List Str := ["grammar"]
theorem Txt.D_option_names (T : Txt K mg) : ∃ fd, FunD K "option_names" "option_names" (defArgs s_option_names) (defBody s_option_names) (defScope s_option_names) [] [] (He.ga K "option_names") fd ∧ Binds K fd p_option_names [] := by
  obtain ⟨fd, F⟩ := T.s.def_ 14 (d := d_option_names) rfl
  exact ⟨fd, F, FunD.bindsN F fun _ _ _ _ _ _ us hl => match us, hl with | [_], _ => rfl⟩
abbrev p_check_names : List Str := ["grammar", "names"]
theorem Txt.D_check_names (T : Txt K mg) : ∃ fd, FunD K "check_names" "check_names" (defArgs s_check_names) (defBody s_check_names) (defScope s_check_names) [] [] (He.ga K "check_names") fd ∧ Binds K fd p_check_names [] := by
  obtain ⟨fd, F⟩ := T.s.def_ 15 (d := d_check_names) rfl
  exact ⟨fd, F, FunD.bindsN F fun _ _ _ _ _ _ us hl => match us, hl with | [_, _], _ => rfl⟩
abbrev p_check_clause : List Str := ["grammar", "clause"]
theorem Txt.D_check_clause (T : Txt K mg) : ∃ fd, FunD K "check_clause" "check_clause" (defArgs s_check_clause) (defBody s_check_clause) (defScope s_check_clause) [] [] (He.ga K "check_clause") fd ∧ Binds K fd p_check_clause [] := by
  obtain ⟨fd, F⟩ := T.s.def_ 16 (d := d_check_clause) rfl
  exact ⟨fd, F, FunD.bindsN F fun _ _ _ _ _ _ us hl => match us, hl with | [_, _], _ => rfl⟩
abbrev p_negate : List Str := ["literal"]
theorem Txt.D_negate (T : Txt K mg) : ∃ fd, FunD K "negate" "negate" (defArgs s_negate) (defBody s_negate) (defScope s_negate) [] [] (He.ga K "negate") fd ∧ Binds K fd p_negate [] := by
  obtain ⟨fd, F⟩ := T.s.def_ 17 (d := d_negate) rfl
  exact ⟨fd, F, FunD.bindsN F fun _ _ _ _ _ _ us hl => match us, hl with | [_], _ => rfl⟩
abbrev p_literals_of : List Str := ["clause"]
theorem Txt.D_literals_of (T : Txt K mg) : ∃ fd, FunD K "literals_of" "literals_of" (defArgs s_literals_of) (defBody s_literals_of) (defScope s_literals_of) [] [] (He.ga K "literals_of") fd ∧ Binds K fd p_literals_of [] := by
  obtain ⟨fd, F⟩ := T.s.def_ 18 (d := d_literals_of) rfl
  exact ⟨fd, F, FunD.bindsN F fun _ _ _ _ _ _ us hl => match us, hl with | [_], _ => rfl⟩
abbrev p_ImplicationGraph_init : List Str := ["self", "names", "clauses"]
theorem Txt.D_ImplicationGraph_init (T : Txt K mg) : ∃ fd, FunD K "__init__" "ImplicationGraph.__init__" (defArgs s_ImplicationGraph_init) (defBody s_ImplicationGraph_init) (defScope s_ImplicationGraph_init) [] [] (He.ma K (He.ga K "ImplicationGraph") "__init__") fd ∧ Binds K fd p_ImplicationGraph_init [] := by
  obtain ⟨fd, F⟩ := T.s.def_ 19 (d := d_ImplicationGraph_init) rfl
  exact ⟨fd, F, FunD.bindsN F fun _ _ _ _ _ _ us hl => match us, hl with | [_, _, _], _ => rfl⟩
abbrev p_ImplicationGraph_reachable : List Str := ["self", "starts"]
theorem Txt.D_ImplicationGraph_reachable (T : Txt K mg) : ∃ fd, FunD K "reachable" "ImplicationGraph.reachable" (defArgs s_ImplicationGraph_reachable) (defBody s_ImplicationGraph_reachable) (defScope s_ImplicationGraph_reachable) [] [] (He.ma K (He.ga K "ImplicationGraph") "reachable") fd ∧ Binds K fd p_ImplicationGraph_reachable [] := by
  obtain ⟨fd, F⟩ := T.s.def_ 20 (d := d_ImplicationGraph_reachable) rfl
  exact ⟨fd, F, FunD.bindsN F fun _ _ _ _ _ _ us hl => match us, hl with | [_, _], _ => rfl⟩
abbrev p_ImplicationGraph_distances_to : List Str := ["self", "goal"]
theorem Txt.D_ImplicationGraph_distances_to (T : Txt K mg) : ∃ fd, FunD K "distances_to" "ImplicationGraph.distances_to" (defArgs s_ImplicationGraph_distances_to) (defBody s_ImplicationGraph_distances_to) (defScope s_ImplicationGraph_distances_to) [] [] (He.ma K (He.ga K "ImplicationGraph") "distances_to") fd ∧ Binds K fd p_ImplicationGraph_distances_to [] := by
  obtain ⟨fd, F⟩ := T.s.def_ 21 (d := d_ImplicationGraph_distances_to) rfl
  exact ⟨fd, F, FunD.bindsN F fun _ _ _ _ _ _ us hl => match us, hl with | [_, _], _ => rfl⟩
abbrev p_ImplicationGraph_shortest_chain : List Str := ["self", "start", "goal"]
theorem Txt.D_ImplicationGraph_shortest_chain (T : Txt K mg) : ∃ fd, FunD K "shortest_chain" "ImplicationGraph.shortest_chain" (defArgs s_ImplicationGraph_shortest_chain) (defBody s_ImplicationGraph_shortest_chain) (defScope s_ImplicationGraph_shortest_chain) [] [] (He.ma K (He.ga K "ImplicationGraph") "shortest_chain") fd ∧ Binds K fd p_ImplicationGraph_shortest_chain [] := by
  obtain ⟨fd, F⟩ := T.s.def_ 22 (d := d_ImplicationGraph_shortest_chain) rfl
  exact ⟨fd, F, FunD.bindsN F fun _ _ _ _ _ _ us hl => match us, hl with | [_, _, _], _ => rfl⟩
abbrev p_ImplicationGraph_best_chain : List Str := ["self", "starts", "goal"]
theorem Txt.D_ImplicationGraph_best_chain (T : Txt K mg) : ∃ fd, FunD K "best_chain" "ImplicationGraph.best_chain" (defArgs s_ImplicationGraph_best_chain) (defBody s_ImplicationGraph_best_chain) (defScope s_ImplicationGraph_best_chain) [] [] (He.ma K (He.ga K "ImplicationGraph") "best_chain") fd ∧ Binds K fd p_ImplicationGraph_best_chain [] := by
  obtain ⟨fd, F⟩ := T.s.def_ 23 (d := d_ImplicationGraph_best_chain) rfl
  exact ⟨fd, F, FunD.bindsN F fun _ _ _ _ _ _ us hl => match us, hl with | [_, _, _], _ => rfl⟩
abbrev p_graph_of : List Str := ["grammar"]
theorem Txt.D_graph_of (T : Txt K mg) : ∃ fd, FunD K "graph_of" "graph_of" (defArgs s_graph_of) (defBody s_graph_of) (defScope s_graph_of) [] [] (He.ga K "graph_of") fd ∧ Binds K fd p_graph_of [] := by
  obtain ⟨fd, F⟩ := T.s.def_ 24 (d := d_graph_of) rfl
  exact ⟨fd, F, FunD.bindsN F fun _ _ _ _ _ _ us hl => match us, hl with | [_], _ => rfl⟩
abbrev p_check_literals : List Str := ["grammar", "literals"]
theorem Txt.D_check_literals (T : Txt K mg) : ∃ fd, FunD K "check_literals" "check_literals" (defArgs s_check_literals) (defBody s_check_literals) (defScope s_check_literals) [] [] (He.ga K "check_literals") fd ∧ Binds K fd p_check_literals [] := by
  obtain ⟨fd, F⟩ := T.s.def_ 25 (d := d_check_literals) rfl
  exact ⟨fd, F, FunD.bindsN F fun _ _ _ _ _ _ us hl => match us, hl with | [_, _], _ => rfl⟩
abbrev p_consequences : List Str := ["grammar", "literals"]
theorem Txt.D_consequences (T : Txt K mg) : ∃ fd, FunD K "consequences" "consequences" (defArgs s_consequences) (defBody s_consequences) (defScope s_consequences) [] [] (He.ga K "consequences") fd ∧ Binds K fd p_consequences [] := by
  obtain ⟨fd, F⟩ := T.s.def_ 26 (d := d_consequences) rfl
  exact ⟨fd, F, FunD.bindsN F fun _ _ _ _ _ _ us hl => match us, hl with | [_, _], _ => rfl⟩
abbrev p_find_chain : List Str := ["grammar", "start", "goal"]
theorem Txt.D_find_chain (T : Txt K mg) : ∃ fd, FunD K "find_chain" "find_chain" (defArgs s_find_chain) (defBody s_find_chain) (defScope s_find_chain) [] [] (He.ga K "find_chain") fd ∧ Binds K fd p_find_chain [] := by
  obtain ⟨fd, F⟩ := T.s.def_ 27 (d := d_find_chain) rfl
  exact ⟨fd, F, FunD.bindsN F fun _ _ _ _ _ _ us hl => match us, hl with | [_, _, _], _ => rfl⟩
abbrev p_find_contradiction : List Str := ["grammar"]
theorem Txt.D_find_contradiction (T : Txt K mg) : ∃ fd, FunD K "find_contradiction" "find_contradiction" (defArgs s_find_contradiction) (defBody s_find_contradiction) (defScope s_find_contradiction) [] [] (He.ga K "find_contradiction") fd ∧ Binds K fd p_find_contradiction [] := by
  obtain ⟨fd, F⟩ := T.s.def_ 28 (d := d_find_contradiction) rfl
  exact ⟨fd, F, FunD.bindsN F fun _ _ _ _ _ _ us hl => match us, hl with | [_], _ => rfl⟩
abbrev p_check_satisfiable : List Str := ["grammar"]
theorem Txt.D_check_satisfiable (T : Txt K mg) : ∃ fd, FunD K "check_satisfiable" "check_satisfiable" (defArgs s_check_satisfiable) (defBody s_check_satisfiable) (defScope s_check_satisfiable) [] [] (He.ga K "check_satisfiable") fd ∧ Binds K fd p_check_satisfiable [] := by
  obtain ⟨fd, F⟩ := T.s.def_ 29 (d := d_check_satisfiable) rfl
  exact ⟨fd, F, FunD.bindsN F fun _ _ _ _ _ _ us hl => match us, hl with | [_], _ => rfl⟩
abbrev p_satisfies : List Str := ["clauses", "names"]
theorem Txt.D_satisfies (T : Txt K mg) : ∃ fd, FunD K "satisfies" "satisfies" (defArgs s_satisfies) (defBody s_satisfies) (defScope s_satisfies) [] [] (He.ga K "satisfies") fd ∧ Binds K fd p_satisfies [] := by
  obtain ⟨fd, F⟩ := T.s.def_ 30 (d := d_satisfies) rfl
  exact ⟨fd, F, FunD.bindsN F fun _ _ _ _ _ _ us hl => match us, hl with | [_, _], _ => rfl⟩
abbrev p_subsets_by_size : List Str := ["names"]
theorem Txt.D_subsets_by_size (T : Txt K mg) : ∃ fd, FunD K "subsets_by_size" "subsets_by_size" (defArgs s_subsets_by_size) (defBody s_subsets_by_size) (defScope s_subsets_by_size) [] [] (He.ga K "subsets_by_size") fd ∧ Binds K fd p_subsets_by_size [] := by
  obtain ⟨fd, F⟩ := T.s.def_ 31 (d := d_subsets_by_size) rfl
  exact ⟨fd, F, FunD.bindsN F fun _ _ _ _ _ _ us hl => match us, hl with | [_], _ => rfl⟩
abbrev p_accepted_sets : List Str := ["grammar"]
theorem Txt.D_accepted_sets (T : Txt K mg) : ∃ fd, FunD K "accepted_sets" "accepted_sets" (defArgs s_accepted_sets) (defBody s_accepted_sets) (defScope s_accepted_sets) [] [] (He.ga K "accepted_sets") fd ∧ Binds K fd p_accepted_sets [] := by
  obtain ⟨fd, F⟩ := T.s.def_ 32 (d := d_accepted_sets) rfl
  exact ⟨fd, F, FunD.bindsN F fun _ _ _ _ _ _ us hl => match us, hl with | [_], _ => rfl⟩
abbrev p_always_required : List Str := ["grammar"]
theorem Txt.D_always_required (T : Txt K mg) : ∃ fd, FunD K "always_required" "always_required" (defArgs s_always_required) (defBody s_always_required) (defScope s_always_required) [] [] (He.ga K "always_required") fd ∧ Binds K fd p_always_required [] := by
  obtain ⟨fd, F⟩ := T.s.def_ 33 (d := d_always_required) rfl
  exact ⟨fd, F, FunD.bindsN F fun _ _ _ _ _ _ us hl => match us, hl with | [_], _ => rfl⟩
abbrev p_never_possible : List Str := ["grammar"]
theorem Txt.D_never_possible (T : Txt K mg) : ∃ fd, FunD K "never_possible" "never_possible" (defArgs s_never_possible) (defBody s_never_possible) (defScope s_never_possible) [] [] (He.ga K "never_possible") fd ∧ Binds K fd p_never_possible [] := by
  obtain ⟨fd, F⟩ := T.s.def_ 34 (d := d_never_possible) rfl
  exact ⟨fd, F, FunD.bindsN F fun _ _ _ _ _ _ us hl => match us, hl with | [_], _ => rfl⟩
abbrev p_implies_literals : List Str := ["graph", "left", "right"]
theorem Txt.D_implies_literals (T : Txt K mg) : ∃ fd, FunD K "implies_literals" "implies_literals" (defArgs s_implies_literals) (defBody s_implies_literals) (defScope s_implies_literals) [] [] (He.ga K "implies_literals") fd ∧ Binds K fd p_implies_literals [] := by
  obtain ⟨fd, F⟩ := T.s.def_ 35 (d := d_implies_literals) rfl
  exact ⟨fd, F, FunD.bindsN F fun _ _ _ _ _ _ us hl => match us, hl with | [_, _, _], _ => rfl⟩
abbrev p_are_equivalent : List Str := ["graph", "first", "second"]
theorem Txt.D_are_equivalent (T : Txt K mg) : ∃ fd, FunD K "are_equivalent" "are_equivalent" (defArgs s_are_equivalent) (defBody s_are_equivalent) (defScope s_are_equivalent) [] [] (He.ga K "are_equivalent") fd ∧ Binds K fd p_are_equivalent [] := by
  obtain ⟨fd, F⟩ := T.s.def_ 36 (d := d_are_equivalent) rfl
  exact ⟨fd, F, FunD.bindsN F fun _ _ _ _ _ _ us hl => match us, hl with | [_, _, _], _ => rfl⟩
abbrev p_option_groups : List Str := ["grammar"]
theorem Txt.D_option_groups (T : Txt K mg) : ∃ fd, FunD K "option_groups" "option_groups" (defArgs s_option_groups) (defBody s_option_groups) (defScope s_option_groups) [] [] (He.ga K "option_groups") fd ∧ Binds K fd p_option_groups [] := by
  obtain ⟨fd, F⟩ := T.s.def_ 37 (d := d_option_groups) rfl
  exact ⟨fd, F, FunD.bindsN F fun _ _ _ _ _ _ us hl => match us, hl with | [_], _ => rfl⟩
abbrev p_conflict_chain : List Str := ["graph", "given"]
theorem Txt.D_conflict_chain (T : Txt K mg) : ∃ fd, FunD K "conflict_chain" "conflict_chain" (defArgs s_conflict_chain) (defBody s_conflict_chain) (defScope s_conflict_chain) [] [] (He.ga K "conflict_chain") fd ∧ Binds K fd p_conflict_chain [] := by
  obtain ⟨fd, F⟩ := T.s.def_ 38 (d := d_conflict_chain) rfl
  exact ⟨fd, F, FunD.bindsN F fun _ _ _ _ _ _ us hl => match us, hl with | [_, _], _ => rfl⟩
abbrev p_Completion_init : List Str := ["self", "grammar", "given"]
theorem Txt.D_Completion_init (T : Txt K mg) : ∃ fd, FunD K "__init__" "Completion.__init__" (defArgs s_Completion_init) (defBody s_Completion_init) (defScope s_Completion_init) [] [] (He.ma K (He.ga K "Completion") "__init__") fd ∧ Binds K fd p_Completion_init [] := by
  obtain ⟨fd, F⟩ := T.s.def_ 39 (d := d_Completion_init) rfl
  exact ⟨fd, F, FunD.bindsN F fun _ _ _ _ _ _ us hl => match us, hl with | [_, _, _], _ => rfl⟩
abbrev p_Completion_chain_for : List Str := ["self", "literal"]
theorem Txt.D_Completion_chain_for (T : Txt K mg) : ∃ fd, FunD K "chain_for" "Completion.chain_for" (defArgs s_Completion_chain_for) (defBody s_Completion_chain_for) (defScope s_Completion_chain_for) [] [] (He.ma K (He.ga K "Completion") "chain_for") fd ∧ Binds K fd p_Completion_chain_for [] := by
  obtain ⟨fd, F⟩ := T.s.def_ 40 (d := d_Completion_chain_for) rfl
  exact ⟨fd, F, FunD.bindsN F fun _ _ _ _ _ _ us hl => match us, hl with | [_, _], _ => rfl⟩
abbrev p_Completion_verdict : List Str := ["self", "name"]
theorem Txt.D_Completion_verdict (T : Txt K mg) : ∃ fd, FunD K "verdict" "Completion.verdict" (defArgs s_Completion_verdict) (defBody s_Completion_verdict) (defScope s_Completion_verdict) [] [] (He.ma K (He.ga K "Completion") "verdict") fd ∧ Binds K fd p_Completion_verdict [] := by
  obtain ⟨fd, F⟩ := T.s.def_ 41 (d := d_Completion_verdict) rfl
  exact ⟨fd, F, FunD.bindsN F fun _ _ _ _ _ _ us hl => match us, hl with | [_, _], _ => rfl⟩
abbrev p_completion_of : List Str := ["grammar", "given"]
theorem Txt.D_completion_of (T : Txt K mg) : ∃ fd, FunD K "completion_of" "completion_of" (defArgs s_completion_of) (defBody s_completion_of) (defScope s_completion_of) [] [] (He.ga K "completion_of") fd ∧ Binds K fd p_completion_of [] := by
  obtain ⟨fd, F⟩ := T.s.def_ 42 (d := d_completion_of) rfl
  exact ⟨fd, F, FunD.bindsN F fun _ _ _ _ _ _ us hl => match us, hl with | [_, _], _ => rfl⟩
abbrev p_verdicts : List Str := ["grammar", "given"]
theorem Txt.D_verdicts (T : Txt K mg) : ∃ fd, FunD K "verdicts" "verdicts" (defArgs s_verdicts) (defBody s_verdicts) (defScope s_verdicts) [] [] (He.ga K "verdicts") fd ∧ Binds K fd p_verdicts [] := by
  obtain ⟨fd, F⟩ := T.s.def_ 43 (d := d_verdicts) rfl
  exact ⟨fd, F, FunD.bindsN F fun _ _ _ _ _ _ us hl => match us, hl with | [_, _], _ => rfl⟩
abbrev p_explain_verdict : List Str := ["grammar", "given", "name"]
theorem Txt.D_explain_verdict (T : Txt K mg) : ∃ fd, FunD K "explain_verdict" "explain_verdict" (defArgs s_explain_verdict) (defBody s_explain_verdict) (defScope s_explain_verdict) [] [] (He.ga K "explain_verdict") fd ∧ Binds K fd p_explain_verdict [] := by
  obtain ⟨fd, F⟩ := T.s.def_ 44 (d := d_explain_verdict) rfl
  exact ⟨fd, F, FunD.bindsN F fun _ _ _ _ _ _ us hl => match us, hl with | [_, _, _], _ => rfl⟩
abbrev p_complete : List Str := ["grammar", "given"]
theorem Txt.D_complete (T : Txt K mg) : ∃ fd, FunD K "complete" "complete" (defArgs s_complete) (defBody s_complete) (defScope s_complete) [] [] (He.ga K "complete") fd ∧ Binds K fd p_complete [] := by
  obtain ⟨fd, F⟩ := T.s.def_ 45 (d := d_complete) rfl
  exact ⟨fd, F, FunD.bindsN F fun _ _ _ _ _ _ us hl => match us, hl with | [_, _], _ => rfl⟩
abbrev p_implying_chain : List Str := ["graph", "clause"]
theorem Txt.D_implying_chain (T : Txt K mg) : ∃ fd, FunD K "implying_chain" "implying_chain" (defArgs s_implying_chain) (defBody s_implying_chain) (defScope s_implying_chain) [] [] (He.ga K "implying_chain") fd ∧ Binds K fd p_implying_chain [] := by
  obtain ⟨fd, F⟩ := T.s.def_ 46 (d := d_implying_chain) rfl
  exact ⟨fd, F, FunD.bindsN F fun _ _ _ _ _ _ us hl => match us, hl with | [_, _], _ => rfl⟩
abbrev p_implied : List Str := ["grammar", "clause"]
theorem Txt.D_implied (T : Txt K mg) : ∃ fd, FunD K "implied" "implied" (defArgs s_implied) (defBody s_implied) (defScope s_implied) [] [] (He.ga K "implied") fd ∧ Binds K fd p_implied [] := by
  obtain ⟨fd, F⟩ := T.s.def_ 47 (d := d_implied) rfl
  exact ⟨fd, F, FunD.bindsN F fun _ _ _ _ _ _ us hl => match us, hl with | [_, _], _ => rfl⟩
abbrev p_counterexample : List Str := ["grammar", "clause"]
theorem Txt.D_counterexample (T : Txt K mg) : ∃ fd, FunD K "counterexample" "counterexample" (defArgs s_counterexample) (defBody s_counterexample) (defScope s_counterexample) [] [] (He.ga K "counterexample") fd ∧ Binds K fd p_counterexample [] := by
  obtain ⟨fd, F⟩ := T.s.def_ 48 (d := d_counterexample) rfl
  exact ⟨fd, F, FunD.bindsN F fun _ _ _ _ _ _ us hl => match us, hl with | [_, _], _ => rfl⟩
abbrev p_is_redundant : List Str := ["names", "clauses", "index"]
theorem Txt.D_is_redundant (T : Txt K mg) : ∃ fd, FunD K "is_redundant" "is_redundant" (defArgs s_is_redundant) (defBody s_is_redundant) (defScope s_is_redundant) [] [] (He.ga K "is_redundant") fd ∧ Binds K fd p_is_redundant [] := by
  obtain ⟨fd, F⟩ := T.s.def_ 49 (d := d_is_redundant) rfl
  exact ⟨fd, F, FunD.bindsN F fun _ _ _ _ _ _ us hl => match us, hl with | [_, _, _], _ => rfl⟩
abbrev p_redundant_clauses : List Str := ["grammar"]
theorem Txt.D_redundant_clauses (T : Txt K mg) : ∃ fd, FunD K "redundant_clauses" "redundant_clauses" (defArgs s_redundant_clauses) (defBody s_redundant_clauses) (defScope s_redundant_clauses) [] [] (He.ga K "redundant_clauses") fd ∧ Binds K fd p_redundant_clauses [] := by
  obtain ⟨fd, F⟩ := T.s.def_ 50 (d := d_redundant_clauses) rfl
  exact ⟨fd, F, FunD.bindsN F fun _ _ _ _ _ _ us hl => match us, hl with | [_], _ => rfl⟩
abbrev p__law_dice : List Str := ["_law_script"]
theorem Txt.D__law_dice (T : Txt K mg) : ∃ fd, FunD K "_law_dice" "_law_dice" (defArgs s__law_dice) (defBody s__law_dice) (defScope s__law_dice) [] [] (He.ga K "_law_dice") fd ∧ Binds K fd p__law_dice [] := by
  obtain ⟨fd, F⟩ := T.s.def_ 51 (d := d__law_dice) rfl
  exact ⟨fd, F, FunD.bindsN F fun _ _ _ _ _ _ us hl => match us, hl with | [_], _ => rfl⟩
abbrev p__law_next : List Str := ["_law_dice_here", "_law_many"]
theorem Txt.D__law_next (T : Txt K mg) : ∃ fd, FunD K "_law_next" "_law_next" (defArgs s__law_next) (defBody s__law_next) (defScope s__law_next) [] [] (He.ga K "_law_next") fd ∧ Binds K fd p__law_next [] := by
  obtain ⟨fd, F⟩ := T.s.def_ 52 (d := d__law_next) rfl
  exact ⟨fd, F, FunD.bindsN F fun _ _ _ _ _ _ us hl => match us, hl with | [_, _], _ => rfl⟩
abbrev p__law_like : List Str := ["_law_found", "_law_due"]
theorem Txt.D__law_like (T : Txt K mg) : ∃ fd, FunD K "_law_like" "_law_like" (defArgs s__law_like) (defBody s__law_like) (defScope s__law_like) [] [] (He.ga K "_law_like") fd ∧ Binds K fd p__law_like [] := by
  obtain ⟨fd, F⟩ := T.s.def_ 53 (d := d__law_like) rfl
  exact ⟨fd, F, FunD.bindsN F fun _ _ _ _ _ _ us hl => match us, hl with | [_, _], _ => rfl⟩
abbrev p__law_pick : List Str := ["_law_d", "_law_some"]
theorem Txt.D__law_pick (T : Txt K mg) : ∃ fd, FunD K "_law_pick" "_law_pick" (defArgs s__law_pick) (defBody s__law_pick) (defScope s__law_pick) [] [] (He.ga K "_law_pick") fd ∧ Binds K fd p__law_pick [] := by
  obtain ⟨fd, F⟩ := T.s.def_ 54 (d := d__law_pick) rfl
  exact ⟨fd, F, FunD.bindsN F fun _ _ _ _ _ _ us hl => match us, hl with | [_, _], _ => rfl⟩
abbrev p__law_told : List Str := ["_law_work"]
theorem Txt.D__law_told (T : Txt K mg) : ∃ fd, FunD K "_law_told" "_law_told" (defArgs s__law_told) (defBody s__law_told) (defScope s__law_told) [] [] (He.ga K "_law_told") fd ∧ Binds K fd p__law_told [] := by
  obtain ⟨fd, F⟩ := T.s.def_ 55 (d := d__law_told) rfl
  exact ⟨fd, F, FunD.bindsN F fun _ _ _ _ _ _ us hl => match us, hl with | [_], _ => rfl⟩
abbrev p__law_kind : List Str := ["_law_d"]
theorem Txt.D__law_kind (T : Txt K mg) : ∃ fd, FunD K "_law_kind" "_law_kind" (defArgs s__law_kind) (defBody s__law_kind) (defScope s__law_kind) [] [] (He.ga K "_law_kind") fd ∧ Binds K fd p__law_kind [] := by
  obtain ⟨fd, F⟩ := T.s.def_ 56 (d := d__law_kind) rfl
  exact ⟨fd, F, FunD.bindsN F fun _ _ _ _ _ _ us hl => match us, hl with | [_], _ => rfl⟩
abbrev p__law_clauses : List Str := ["_law_d", "_law_names_here", "_law_most"]
theorem Txt.D__law_clauses (T : Txt K mg) : ∃ fd, FunD K "_law_clauses" "_law_clauses" (defArgs s__law_clauses) (defBody s__law_clauses) (defScope s__law_clauses) [] [] (He.ga K "_law_clauses") fd ∧ Binds K fd p__law_clauses [] := by
  obtain ⟨fd, F⟩ := T.s.def_ 57 (d := d__law_clauses) rfl
  exact ⟨fd, F, FunD.bindsN F fun _ _ _ _ _ _ us hl => match us, hl with | [_, _, _], _ => rfl⟩
abbrev p__law_grammar : List Str := ["_law_d", "_law_most", "_law_clauses_here"]
theorem Txt.D__law_grammar (T : Txt K mg) : ∃ fd, FunD K "_law_grammar" "_law_grammar" (defArgs s__law_grammar) (defBody s__law_grammar) (defScope s__law_grammar) [] [] (He.ga K "_law_grammar") fd ∧ Binds K fd p__law_grammar [] := by
  obtain ⟨fd, F⟩ := T.s.def_ 58 (d := d__law_grammar) rfl
  exact ⟨fd, F, FunD.bindsN F fun _ _ _ _ _ _ us hl => match us, hl with | [_, _, _], _ => rfl⟩
abbrev p__law_names : List Str := ["_law_grammar_here"]
theorem Txt.D__law_names (T : Txt K mg) : ∃ fd, FunD K "_law_names" "_law_names" (defArgs s__law_names) (defBody s__law_names) (defScope s__law_names) [] [] (He.ga K "_law_names") fd ∧ Binds K fd p__law_names [] := by
  obtain ⟨fd, F⟩ := T.s.def_ 59 (d := d__law_names) rfl
  exact ⟨fd, F, FunD.bindsN F fun _ _ _ _ _ _ us hl => match us, hl with | [_], _ => rfl⟩
abbrev p__law_given : List Str := ["_law_d", "_law_grammar_here", "_law_most"]
theorem Txt.D__law_given (T : Txt K mg) : ∃ fd, FunD K "_law_given" "_law_given" (defArgs s__law_given) (defBody s__law_given) (defScope s__law_given) [] [] (He.ga K "_law_given") fd ∧ Binds K fd p__law_given [] := by
  obtain ⟨fd, F⟩ := T.s.def_ 60 (d := d__law_given) rfl
  exact ⟨fd, F, FunD.bindsN F fun _ _ _ _ _ _ us hl => match us, hl with | [_, _, _], _ => rfl⟩
abbrev p__law_calls : List Str := ["_law_grammar_here", "_law_given_here", "_law_name"]
theorem Txt.D__law_calls (T : Txt K mg) : ∃ fd, FunD K "_law_calls" "_law_calls" (defArgs s__law_calls) (defBody s__law_calls) (defScope s__law_calls) [] [] (He.ga K "_law_calls") fd ∧ Binds K fd p__law_calls [] := by
  obtain ⟨fd, F⟩ := T.s.def_ 61 (d := d__law_calls) rfl
  exact ⟨fd, F, FunD.bindsN F fun _ _ _ _ _ _ us hl => match us, hl with | [_, _, _], _ => rfl⟩
abbrev p__law_copied : List Str := ["_law_told_here"]
theorem Txt.D__law_copied (T : Txt K mg) : ∃ fd, FunD K "_law_copied" "_law_copied" (defArgs s__law_copied) (defBody s__law_copied) (defScope s__law_copied) [] [] (He.ga K "_law_copied") fd ∧ Binds K fd p__law_copied [] := by
  obtain ⟨fd, F⟩ := T.s.def_ 62 (d := d__law_copied) rfl
  exact ⟨fd, F, FunD.bindsN F fun _ _ _ _ _ _ us hl => match us, hl with | [_], _ => rfl⟩
abbrev p_law : List Str := ["_law_script"]
theorem Txt.D_law (T : Txt K mg) : ∃ fd, FunD K "law" "law" (defArgs s_law) (defBody s_law) (defScope s_law) [] [] (He.ga K "law") fd ∧ Binds K fd p_law [] := by
  obtain ⟨fd, F⟩ := T.s.def_ 63 (d := d_law) rfl
  exact ⟨fd, F, FunD.bindsN F fun _ _ _ _ _ _ us hl => match us, hl with | [_], _ => rfl⟩
end
end K19

/-! ## K19Run -/
set_option Elab.async false
set_option linter.all false
set_option maxRecDepth 100000
set_option maxHeartbeats 4000000
set_option maxHeartbeats 0
namespace K19
open PySem PySem.Spec PyProof.Rows L2
def tf : List He.Defn := [("_law_calls", none), ("law", none)]
def ex (K : PySem.W.Frag) : Bool := exAll K && !decide ((He.cT K ("_law_calls", none)).2 = (He.cT K ("law", none)).2)
def loose0 : List PySem.Str := ["FlagclauseError", "InvalidGrammar", "UnknownOption", "InvalidClause", "InvalidChain", "Unsatisfiable", "Conflict", "DifferentOptions", "LETTERS", "HYPHEN", "MAX_NAME_LENGTH", "MAX_OPTIONS", "MAX_CLAUSES", "MAX_POSITIONALS", "MAX_INTEGER", "MAX_CHOICES", "MAX_WORD_LENGTH", "CLAUSE_WORDS", "is_integer", "is_name"]
def loose1 : List PySem.Str := ["is_short_name", "is_choice_word", "is_kind", "is_option", "check_options", "is_clause", "check_grammar", "names_of", "option_names", "check_names", "check_clause", "negate", "literals_of", "ImplicationGraph", "graph_of", "check_literals", "consequences", "find_chain", "find_contradiction", "check_satisfiable"]
def loose2 : List PySem.Str := ["satisfies", "subsets_by_size", "accepted_sets", "always_required", "never_possible", "implies_literals", "are_equivalent", "option_groups", "conflict_chain", "Completion", "completion_of", "verdicts", "explain_verdict", "complete", "implying_chain", "implied", "counterexample", "is_redundant", "redundant_clauses", "_law_dice"]
def loose3 : List PySem.Str := ["_law_next", "_law_like", "_law_pick", "_law_told", "_law_kind", "_law_clauses", "_law_grammar", "_law_names", "_law_given", "_law_calls", "_law_copied"]
def loose : List PySem.Str := loose0 ++ loose1 ++ loose2 ++ loose3
abbrev R : PySem.W.OpenRow := PySem.W.OpenLaw.row PySem.Challenge.rw_flagclause_k19_whole_repeated_calls
/-! the Hook of HandS.HeadHook4 (hookX), with the interpreter's own statics among the objects told -/
def asS (g : Addr → Option Obj) (n : Nat) : List Addr := cStatics :: He.asD g n
def obsS (n : Nat) (fa : List He.Fa) (fn : List He.DefD) (tf : List He.Defn) (ex : PySem.W.Frag → Bool) (g : Addr → Option Obj) : He.AlX := (He.obsT fa fn [] (He.frT g (asS g n)), ex (He.frT g (asS g n)) && He.tabsB g tf (He.frT g (asS g n)))
theorem saysS_of {n : Nat} {fa : List He.Fa} {fn : List He.DefD} {tf : List He.Defn} {ex : PySem.W.Frag → Bool} {w : World} {h : Heap} (e : obsS n fa fn tf ex h.get? = He.valX fn [] w) : He.SaysX fa fn [] tf ex w h (He.frT h.get? (asS h.get? n)) := by
  have e1 : He.obsT fa fn [] (He.frT h.get? (asS h.get? n)) = He.valT fn [] w := congrArg (fun z : He.AlX => z.1) e
  have e2 : (ex (He.frT h.get? (asS h.get? n)) && He.tabsB h.get? tf (He.frT h.get? (asS h.get? n))) = true := congrArg (fun z : He.AlX => z.2) e
  obtain ⟨h1, h2⟩ := He.ba e2
  have key : ∀ p ∈ tf, PySem.W.codeHdIn (He.frT h.get? (asS h.get? n)) (He.cT (He.frT h.get? (asS h.get? n)) p).1 (He.cT (He.frT h.get? (asS h.get? n)) p).2 = true ∧ ∃ o, h.get? (He.cT (He.frT h.get? (asS h.get? n)) p).2 = some o ∧ He.emptyTab o = true := fun p hp => by
    obtain ⟨h3, h4⟩ := He.ba (List.all_eq_true.mp h2 p hp)
    refine ⟨h3, ?_⟩
    cases q : h.get? (He.cT (He.frT h.get? (asS h.get? n)) p).2 with
    | none =>
      rw [q] at h4
      cases h4
    | some o =>
      rw [q] at h4
      exact ⟨o, rfl, h4⟩
  exact ⟨e1, h1, fun p hp => (key p hp).1, fun p hp => by
    obtain ⟨_, o, q, z⟩ := key p hp
    exact He.frT_none q z, fun p hp => by
    obtain ⟨_, o, q, z⟩ := key p hp
    rw [q, He.emptyTab_eq z]⟩
def hookS (n : Nat) (fa : List He.Fa) (fn : List He.DefD) (tf : List He.Defn) (ex : PySem.W.Frag → Bool) : PySem.W.Hook where
  α := He.AlX
  obs := fun s => obsS n fa fn tf ex s.heap.get?
  val := fun w => He.valX fn [] w
  says := fun w h => ∃ K : PySem.W.Frag, K.In h ∧ He.SaysX fa fn [] tf ex w h K
  of := fun _ _ e => ⟨_, He.frT_in, saysS_of e⟩
  keeps := fun _ _ _ ⟨K, hK, c⟩ k => ⟨K, PySem.W.Frag.In.keeps hK k, ⟨c.t, c.more, c.hd, c.out, fun p hp => k _ _ (c.empty p hp)⟩⟩
theorem obsS_eq {n : Nat} {fa : List He.Fa} {fn : List He.DefD} {tf : List He.Defn} {ex : PySem.W.Frag → Bool} {g : Addr → Option Obj} {s : Shared} (h : ∀ a, g a = s.heap.get? a) : obsS n fa fn tf ex g = (hookS n fa fn tf ex).obs s := by
  have e : g = s.heap.get? := funext h
  rw [e] <;> rfl
abbrev hk : PySem.W.Hook := hookS 4 fa fn tf ex
def ob (s : PySem.W.SharedT) : He.AlX := obsS 4 fa fn tf ex (HandSHeadRun.getT s)
theorem ob_eq (s : PySem.W.SharedT) : ob s = hk.obs s.abs := obsS_eq (HandSHeadRun.getT_eq s)
theorem run (w : World) : HandSHeadRun.RunEq R (PySem.W.view R.prog [78]) hk ob 6000 loose w := by
  intro os
  kernel_rfl
end K19

/-! ## K19Base -/
set_option Elab.async false
set_option linter.all false
set_option maxRecDepth 100000
set_option maxHeartbeats 4000000
namespace K19
open PySem PySem.Spec PyProof.Rows L2 Evl

/-! ### defs, methods, classes by their names -/
structure Cal (P : Program) (w : World) (K : PySem.W.Frag) (mg : Str → Option Value) (base : Heap) (CX : CXT) (k : Nat) (x : Str) (sp : Sp) : Prop where
  ex : ∃ (f : Addr) (fd : FuncData) (ps : List Str), FnOk P w K mg base CX k f fd ps sp ∧ mg x = some (.ref f) ∧ PySem.W.keepIn K (.ref f) = true ∧ Binds K fd ps []
structure Met (P : Program) (w : World) (K : PySem.W.Frag) (mg : Str → Option Value) (base : Heap) (CX : CXT) (k : Nat) (C : Addr) (m : Str) (sp : Sp) : Prop where
  ex : ∃ (f : Addr) (fd : FuncData) (ps : List Str), Cls K C ∧ Meth K C m f ∧ FnOk P w K mg base CX k f fd ps sp ∧ Binds K fd ps []
structure Mak (P : Program) (w : World) (K : PySem.W.Frag) (mg : Str → Option Value) (base : Heap) (CX : CXT) (k : Nat) (x : Str) (C : Addr) (sp : Sp) : Prop where
  ex : ∃ (f : Addr) (fd : FuncData) (ps : List Str), Mk K C f ∧ FnOk P w K mg base CX k f fd ps sp ∧ mg x = some (.ref C) ∧ Binds K fd ps []
abbrev LX (P : Program) (w : World) : CXT := L2.CX P w
section
variable {P : Program} {w : World} {K : PySem.W.Frag} {mg : Str → Option Value} {base : Heap}
/-- a def that raises nothing, by its body -/
theorem fn0 {x qual : Str} {st : Stmt} {f : Addr} {fd : FuncData} {N ps : List Str} {k : Nat} {sp : Sp} (F : FunD K x qual (defArgs st) (defBody st) (defScope st) [] [] f fd) (S : FnScope N ps (defScope st)) (len : ∀ vs H Q E, sp vs H Q E → vs.length = ps.length)
    (hbody : ∀ (cdv : Value) (A : Around) (outer : List Env) (s : Shared) (H : Hp) (vs : List V) (Q : VK) (E : XK), Room k (A.deeper (envOfC qual (defScope st) s.heap.objs.size f cdv)) → sp vs H Q E →
      ∃ t, PSs (cxOf CX0 P w K mg base N qual (defScope st) f cdv A outer s H E).nox (defBody st) t ∧ t { nx := fun _ H' => Q .non H', rt := Q } (start N vs) H) : FnOk P w K mg base CX0 (k + 1) f fd ps sp := by
  refine F.ok S len fun cdv A outer s H vs Q E hr hsp => ?_
  obtain ⟨t, h, q⟩ := hbody cdv A outer s H vs Q E hr hsp
  exact ⟨t, h.nox, q⟩
theorem cal0 {x : Str} {st : Stmt} {f : Addr} {N ps : List Str} {k : Nat} {sp : Sp} (D : ∃ fd, FunD K x x (defArgs st) (defBody st) (defScope st) [] [] f fd ∧ Binds K fd ps []) (hm : mg x = some (.ref f)) (S : FnScope N ps (defScope st)) (len : ∀ vs H Q E, sp vs H Q E → vs.length = ps.length)
    (hbody : ∀ (cdv : Value) (A : Around) (outer : List Env) (s : Shared) (H : Hp) (vs : List V) (Q : VK) (E : XK), Room k (A.deeper (envOfC x (defScope st) s.heap.objs.size f cdv)) → sp vs H Q E →
      ∃ t, PSs (cxOf CX0 P w K mg base N x (defScope st) f cdv A outer s H E).nox (defBody st) t ∧ t { nx := fun _ H' => Q .non H', rt := Q } (start N vs) H) : Cal P w K mg base CX0 (k + 1) x sp := by
  obtain ⟨fd, F, b⟩ := D
  exact ⟨f, fd, ps, fn0 F S len hbody, hm, F.kp, b⟩
theorem calX {x : Str} {st : Stmt} {f : Addr} {N ps : List Str} {k : Nat} {sp : Sp} (D : ∃ fd, FunD K x x (defArgs st) (defBody st) (defScope st) [] [] f fd ∧ Binds K fd ps []) (hm : mg x = some (.ref f)) (S : FnScope N ps (defScope st)) (len : ∀ vs H Q E, sp vs H Q E → vs.length = ps.length)
    (hbody : ∀ (cdv : Value) (A : Around) (outer : List Env) (s : Shared) (H : Hp) (vs : List V) (Q : VK) (E : XK), Room k (A.deeper (envOfC x (defScope st) s.heap.objs.size f cdv)) → sp vs H Q E →
      ∃ t, PSs (cxOf (LX P w) P w K mg base N x (defScope st) f cdv A outer s H E) (defBody st) t ∧ t { nx := fun _ H' => Q .non H', rt := Q } (start N vs) H) : Cal P w K mg base (LX P w) (k + 1) x sp := by
  obtain ⟨fd, F, b⟩ := D
  exact ⟨f, fd, ps, F.ok S len hbody, hm, F.kp, b⟩
theorem met0 {m qual : Str} {C : Addr} {st : Stmt} {f : Addr} {N ps : List Str} {k : Nat} {sp : Sp} (c : Cls K C) (me : Meth K C m f) (D : ∃ fd, FunD K m qual (defArgs st) (defBody st) (defScope st) [] [] f fd ∧ Binds K fd ps []) (S : FnScope N ps (defScope st)) (len : ∀ vs H Q E, sp vs H Q E → vs.length = ps.length)
    (hbody : ∀ (cdv : Value) (A : Around) (outer : List Env) (s : Shared) (H : Hp) (vs : List V) (Q : VK) (E : XK), Room k (A.deeper (envOfC qual (defScope st) s.heap.objs.size f cdv)) → sp vs H Q E →
      ∃ t, PSs (cxOf CX0 P w K mg base N qual (defScope st) f cdv A outer s H E).nox (defBody st) t ∧ t { nx := fun _ H' => Q .non H', rt := Q } (start N vs) H) : Met P w K mg base CX0 (k + 1) C m sp := by
  obtain ⟨fd, F, b⟩ := D
  exact ⟨f, fd, ps, c, me, fn0 F S len hbody, b⟩
theorem mak0 {x qual : Str} {C : Addr} {st : Stmt} {f : Addr} {N ps : List Str} {k : Nat} {sp : Sp} (M : Mk K C f) (hm : mg x = some (.ref C)) (D : ∃ fd, FunD K "__init__" qual (defArgs st) (defBody st) (defScope st) [] [] f fd ∧ Binds K fd ps []) (S : FnScope N ps (defScope st)) (len : ∀ vs H Q E, sp vs H Q E → vs.length = ps.length)
    (hbody : ∀ (cdv : Value) (A : Around) (outer : List Env) (s : Shared) (H : Hp) (vs : List V) (Q : VK) (E : XK), Room k (A.deeper (envOfC qual (defScope st) s.heap.objs.size f cdv)) → sp vs H Q E →
      ∃ t, PSs (cxOf CX0 P w K mg base N qual (defScope st) f cdv A outer s H E).nox (defBody st) t ∧ t { nx := fun _ H' => Q .non H', rt := Q } (start N vs) H) : Mak P w K mg base CX0 (k + 1) x C sp := by
  obtain ⟨fd, F, b⟩ := D
  exact ⟨f, fd, ps, M, fn0 F S len hbody, hm, b⟩
theorem makX {x qual : Str} {C : Addr} {st : Stmt} {f : Addr} {N ps : List Str} {k : Nat} {sp : Sp} (M : Mk K C f) (hm : mg x = some (.ref C)) (D : ∃ fd, FunD K "__init__" qual (defArgs st) (defBody st) (defScope st) [] [] f fd ∧ Binds K fd ps []) (S : FnScope N ps (defScope st)) (len : ∀ vs H Q E, sp vs H Q E → vs.length = ps.length)
    (hbody : ∀ (cdv : Value) (A : Around) (outer : List Env) (s : Shared) (H : Hp) (vs : List V) (Q : VK) (E : XK), Room k (A.deeper (envOfC qual (defScope st) s.heap.objs.size f cdv)) → sp vs H Q E →
      ∃ t, PSs (cxOf (LX P w) P w K mg base N qual (defScope st) f cdv A outer s H E) (defBody st) t ∧ t { nx := fun _ H' => Q .non H', rt := Q } (start N vs) H) : Mak P w K mg base (LX P w) (k + 1) x C sp := by
  obtain ⟨fd, F, b⟩ := D
  exact ⟨f, fd, ps, M, F.ok S len hbody, hm, b⟩
end
section
variable {X : Cx} {CX : CXT} {E : XK} {k j : Nat} {C : Addr} {x m : Str} {sp : Sp} {p pos apos : Pos} {e o : Expr} {es : List Expr} {ta : TE} {t : TA}
theorem pe_c (c : Cal X.prog X.w X.K X.mg X.base CX k x sp) (hr : Room j X.A) (hk : k ≤ j) (hg : Gl X x) (hx : Passes CX X E) (ha : PA X (e :: es) t)
    (hdb : (x == ("__debug__" : Str)) = false := by decide) (he : starEach (e :: es) X.env = (false, eval e X.env) :: starEach es X.env := by rfl) (hpl : (backTo pos (starEach es X.env)).any (·.1) = false := by rfl) :
    PE X (.Call (.Name x p) (e :: es) [] pos) (tCall sp [] E t) := by
  obtain ⟨f, fd, ps, F, hm, kp, b⟩ := c.ex
  exact pe_call F (hr.mono hk) hg hm kp b .nil hx ha hdb he hpl
theorem pe_mk (c : Mak X.prog X.w X.K X.mg X.base CX k x C sp) (hr : Room j X.A) (hk : k + 1 ≤ j) (hg : Gl X x) (hx : Passes CX X E) (ha : PA X (e :: es) t)
    (hdb : (x == ("__debug__" : Str)) = false := by decide) (he : starEach (e :: es) X.env = (false, eval e X.env) :: starEach es X.env := by rfl) (hpl : (backTo pos (starEach es X.env)).any (·.1) = false := by rfl) :
    PE X (.Call (.Name x p) (e :: es) [] pos) (tMake C sp [] E t) := by
  obtain ⟨f, fd, ps, M, F, hm, b⟩ := c.ex
  exact pe_make M F (hr.mono hk) hg hm b .nil hx ha hdb he hpl
theorem pe_mt {pl : Sem Bool} (c : Met X.prog X.w X.K X.mg X.base CX k C m sp) (hr : Room j X.A) (hk : k ≤ j) (hx : Passes CX X E) (he : PE X o ta) (ha : PA X (e :: es) t)
    (hst : starEach (e :: es) X.env = (false, eval e X.env) :: starEach es X.env := by rfl) (hpl : (backTo pos (starEach es X.env)).any (·.1) = false := by rfl)
    (ht : eval (.Call (.Attribute o m apos) (e :: es) [] pos) X.env = (do
      let ov ← eval o X.env
      standAt apos.atName
      let (f, first) ← holding [ov] (getMethod ov m pl)
      callWith pos f first (backTo pos (starEach (e :: es) X.env)) (backToKw pos (keywordEach [] X.env))) := by rfl) :
    PE X (.Call (.Attribute o m apos) (e :: es) [] pos) (tMeth C m sp [] E ta t) := by
  obtain ⟨f, fd, ps, hc, hm, F, b⟩ := c.ex
  exact pe_meth (pl := pl) he hc hm F (hr.mono hk) b .nil hx ha hst hpl ht
end

/-! ### what a value stands for -/
abbrev DR (α : Type) := Hp → V → α → Prop
/-- it stays while the heap grows -/
def Mono {α : Type} (R : DR α) : Prop := ∀ (H H' : Hp) (v : V) (a : α), Ex H H' → R H v a → R H' v a
def LR {α : Type} (R : DR α) (H : Hp) (xs : List V) (as : List α) : Prop := Paired (R H) xs as
theorem LR.mono {α : Type} {R : DR α} (m : Mono R) {H H' : Hp} {xs : List V} {as : List α} (e : Ex H H') (h : LR R H xs as) : LR R H' xs as := Paired.mapP h fun _ _ z => m _ _ _ _ e z
theorem LR.length {α : Type} {R : DR α} {H : Hp} {xs : List V} {as : List α} (h : LR R H xs as) : xs.length = as.length := Paired.length h
theorem LR.get {α : Type} {R : DR α} {H : Hp} : ∀ {xs : List V} {as : List α} {i : Nat} {a : α}, LR R H xs as → as[i]? = some a → ∃ x, xs[i]? = some x ∧ R H x a
  | _, _, _, _, .nil, e => by simp at e
  | _, _, 0, _, .cons r _, e => by
    have e' := Option.some.inj (by simpa using e)
    subst e'
    exact ⟨_, rfl, r⟩
  | _, _, i + 1, a, .cons _ t, e => by
    obtain ⟨x, h1, h2⟩ := LR.get (i := i) (a := a) t (by simpa using e)
    exact ⟨x, by simpa using h1, h2⟩
theorem LR.getV {α : Type} {R : DR α} {H : Hp} : ∀ {xs : List V} {as : List α} {i : Nat} {x : V}, LR R H xs as → xs[i]? = some x → ∃ a, as[i]? = some a ∧ R H x a
  | _, _, _, _, .nil, e => by simp at e
  | _, _, 0, _, .cons r _, e => by
    have e' := Option.some.inj (by simpa using e)
    subst e'
    exact ⟨_, rfl, r⟩
  | _, _, i + 1, x, .cons _ t, e => by
    obtain ⟨a, h1, h2⟩ := LR.getV (i := i) (x := x) t (by simpa using e)
    exact ⟨a, by simpa using h1, h2⟩
theorem LR.append {α : Type} {R : DR α} {H : Hp} : ∀ {xs ys : List V} {as bs : List α}, LR R H xs as → LR R H ys bs → LR R H (xs ++ ys) (as ++ bs)
  | _, _, _, _, .nil, s => s
  | _, _, _, _, .cons r t, s => .cons r (LR.append t s)
theorem LR.snoc {α : Type} {R : DR α} {H : Hp} {xs : List V} {as : List α} {x : V} {a : α} (h : LR R H xs as) (r : R H x a) : LR R H (xs ++ [x]) (as ++ [a]) := h.append (.cons r .nil)

def rV : DR V := fun _ v a => v = a
def rStr : DR Str := fun _ v a => v = .str a
def rInt : DR Int := fun _ v a => v = .int a
def rBl : DR Bool := fun _ v a => v = .bl a
theorem mV : Mono rV := fun _ _ _ _ _ h => h
theorem mStr : Mono rStr := fun _ _ _ _ _ h => h
theorem mInt : Mono rInt := fun _ _ _ _ _ h => h
theorem mBl : Mono rBl := fun _ _ _ _ _ h => h
/-- a list, a tuple that may be read -/
def rLst {α : Type} (K : PySem.W.Frag) (R : DR α) : DR (List α) := fun H v as => ∃ p xs, v = .ref p ∧ SqL K H p xs ∧ LR R H xs as
def rTpl {α : Type} (K : PySem.W.Frag) (R : DR α) : DR (List α) := fun H v as => ∃ p xs, v = .ref p ∧ SqT K H p xs ∧ LR R H xs as
theorem mLst {α : Type} {K : PySem.W.Frag} {R : DR α} (m : Mono R) : Mono (rLst K R) := fun _ _ _ _ e ⟨p, xs, h1, h2, h3⟩ => ⟨p, xs, h1, ex_l e h2, h3.mono m e⟩
theorem mTpl {α : Type} {K : PySem.W.Frag} {R : DR α} (m : Mono R) : Mono (rTpl K R) := fun _ _ _ _ e ⟨p, xs, h1, h2, h3⟩ => ⟨p, xs, h1, ex_t e h2, h3.mono m e⟩
/-- tuples of two, of three -/
def rT2 {α β : Type} (K : PySem.W.Frag) (R : DR α) (S : DR β) : DR (α × β) := fun H v a => ∃ p x y, v = .ref p ∧ SqT K H p [x, y] ∧ R H x a.1 ∧ S H y a.2
def rT3 {α β γ : Type} (K : PySem.W.Frag) (R : DR α) (S : DR β) (T : DR γ) : DR (α × β × γ) := fun H v a => ∃ p x y z, v = .ref p ∧ SqT K H p [x, y, z] ∧ R H x a.1 ∧ S H y a.2.1 ∧ T H z a.2.2
theorem mT2 {α β : Type} {K : PySem.W.Frag} {R : DR α} {S : DR β} (m : Mono R) (n : Mono S) : Mono (rT2 K R S) := fun _ _ _ _ e ⟨p, x, y, h1, h2, h3, h4⟩ => ⟨p, x, y, h1, ex_t e h2, m _ _ _ _ e h3, n _ _ _ _ e h4⟩
theorem mT3 {α β γ : Type} {K : PySem.W.Frag} {R : DR α} {S : DR β} {T : DR γ} (m : Mono R) (n : Mono S) (l : Mono T) : Mono (rT3 K R S T) :=
  fun _ _ _ _ e ⟨p, x, y, z, h1, h2, h3, h4, h5⟩ => ⟨p, x, y, z, h1, ex_t e h2, m _ _ _ _ e h3, n _ _ _ _ e h4, l _ _ _ _ e h5⟩
/-- None or a value -/
def rOpt {α : Type} (R : DR α) : DR (Option α) := fun H v a => match a with
  | none => v = .non
  | some x => R H v x
theorem mOpt {α : Type} {R : DR α} (m : Mono R) : Mono (rOpt R) := fun H H' v a e h => by
  cases a with
  | none => exact h
  | some x => exact m _ _ _ _ e h

/-! ### a list that changes (a comprehension's own) is not what a value stands on -/
def At {α : Type} (D : Addr) (S : DR α) : DR α := fun H v a => S H v a ∧ ∀ ys, S (upd H D (.lst ys)) v a
theorem ex_upd {H H' : Hp} {D : Addr} {o : HO} (e : Ex H H') : Ex (upd H D o) (upd H' D o) := fun b u h => by
  by_cases q : b = D
  · subst q
    rw [upd_same] at h ⊢
    exact h
  · rw [upd_ne q] at h ⊢
    exact e b u h
theorem mAt {α : Type} {D : Addr} {S : DR α} (m : Mono S) : Mono (At D S) := fun _ _ _ _ e h => ⟨m _ _ _ _ e h.1, fun ys => m _ _ _ _ (ex_upd e) (h.2 ys)⟩
theorem At.upd {α : Type} {D : Addr} {S : DR α} {H : Hp} {v : V} {a : α} {ys : List V} (h : At D S H v a) : At D S (upd H D (.lst ys)) v a := ⟨h.2 ys, fun zs => by
  rw [upd_upd]
  exact h.2 zs⟩
def Rob {α : Type} (S : DR α) : Prop := ∀ (H : Hp) (D : Addr) (l ys : List V) (v : V) (a : α), H D = some (.lst l) → S H v a → S (upd H D (.lst ys)) v a
theorem Rob.at {α : Type} {S : DR α} (r : Rob S) {H : Hp} {D : Addr} {l : List V} {v : V} {a : α} (h : H D = some (.lst l)) (s : S H v a) : At D S H v a := ⟨s, fun ys => r H D l ys v a h s⟩
theorem bV : Rob rV := fun _ _ _ _ _ _ _ h => h
theorem bStr : Rob rStr := fun _ _ _ _ _ _ _ h => h
theorem bInt : Rob rInt := fun _ _ _ _ _ _ _ h => h
theorem bBl : Rob rBl := fun _ _ _ _ _ _ _ h => h
theorem sqt_upd {K : PySem.W.Frag} {H : Hp} {D p : Addr} {l ys xs : List V} (hD : H D = some (.lst l)) (h : SqT K H p xs) : SqT K (upd H D (.lst ys)) p xs := by
  rcases h with (h | ⟨o, h⟩) | h
  · exact .inl (.inl (by rw [upd_ne (ne_of h hD (fun z => by cases z))]; exact h))
  · exact .inl (.inr ⟨o, by rw [upd_ne (ne_of h hD (fun z => by cases z))]; exact h⟩)
  · exact .inr h
theorem sqt_updK {K : PySem.W.Frag} {H : Hp} {D p : Addr} {l : List (Key × V)} {o : HO} {xs : List V} (hD : H D = some (.dK l)) (h : SqT K H p xs) : SqT K (upd H D o) p xs := by
  rcases h with (h | ⟨ob, h⟩) | h
  · exact .inl (.inl (by rw [upd_ne (ne_of h hD (fun z => by cases z))]; exact h))
  · exact .inl (.inr ⟨ob, by rw [upd_ne (ne_of h hD (fun z => by cases z))]; exact h⟩)
  · exact .inr h
theorem LR.imp {α : Type} {R S : DR α} {H H' : Hp} {xs : List V} {as : List α} (h : LR R H xs as) (f : ∀ v a, R H v a → S H' v a) : LR S H' xs as := Paired.mapP h f
theorem bTpl {α : Type} {K : PySem.W.Frag} {R : DR α} (b : Rob R) : Rob (rTpl K R) := fun H D l ys v a hD ⟨p, xs, h1, h2, h3⟩ => ⟨p, xs, h1, sqt_upd hD h2, h3.imp fun v a => b H D l ys v a hD⟩
theorem bT2 {α β : Type} {K : PySem.W.Frag} {R : DR α} {S : DR β} (b : Rob R) (c : Rob S) : Rob (rT2 K R S) := fun H D l ys _ _ hD ⟨p, x, y, h1, h2, h3, h4⟩ => ⟨p, x, y, h1, sqt_upd hD h2, b H D l ys _ _ hD h3, c H D l ys _ _ hD h4⟩
theorem bT3 {α β γ : Type} {K : PySem.W.Frag} {R : DR α} {S : DR β} {T : DR γ} (b : Rob R) (c : Rob S) (d : Rob T) : Rob (rT3 K R S T) :=
  fun H D l ys _ _ hD ⟨p, x, y, z, h1, h2, h3, h4, h5⟩ => ⟨p, x, y, z, h1, sqt_upd hD h2, b H D l ys _ _ hD h3, c H D l ys _ _ hD h4, d H D l ys _ _ hD h5⟩
theorem bOpt {α : Type} {R : DR α} (b : Rob R) : Rob (rOpt R) := fun H D l ys v a hD h => by
  cases a with
  | none => exact h
  | some x => exact b H D l ys v x hD h

/-! ### what evaluates to what -/
def EvR {α : Type} (te : TE) (σ : L2.St) (H : Hp) (R : DR α) (a : α) : Prop := ∀ H1, Ex H H1 → ∀ Q : VK, (∀ v H2, Ex H1 H2 → R H2 v a → Q v H2) → te σ H1 Q
/-- a new list -/
def EvN {α : Type} (te : TE) (σ : L2.St) (H : Hp) (R : DR α) (as : List α) : Prop := ∀ H1, Ex H H1 → ∀ Q : VK, (∀ p H2 xs, H1 p = none → Ex H1 H2 → H2 p = some (.lst xs) → LR R H2 xs as → Q (.ref p) H2) → te σ H1 Q
section
variable {α β : Type} {K : PySem.W.Frag} {σ : L2.St} {H H' : Hp} {te ta tb : TE} {R : DR α} {S : DR β} {a : α}
theorem EvR.mono (e : Ex H H') (h : EvR te σ H R a) : EvR te σ H' R a := fun H1 a Q q => h H1 (e.trans a) Q q
theorem EvN.mono {as : List α} (e : Ex H H') (h : EvN te σ H R as) : EvN te σ H' R as := fun H1 a Q q => h H1 (e.trans a) Q q
theorem EvN.lst {as : List α} (h : EvN te σ H R as) : EvR te σ H (rLst K R) as := fun H1 e Q q => h H1 e Q fun p H2 xs _ e2 hp hl => q _ H2 e2 ⟨p, xs, rfl, sq_of hp, hl⟩
theorem evr_var {i : Nat} {v : V} (m : Mono R) (h : σ[i]? = some (some v)) (r : R H v a) : EvR (tVar i) σ H R a := fun H1 e _ q => ⟨v, h, q v H1 (Ex.refl H1) (m _ _ _ _ e r)⟩
/-- a comprehension over any walk: each item stands for an item of as -/
theorem evn_it {J : It} {n : Nat} {G : Hp → Prop} {Y : Nat → Hp → V → Hp → Prop} {H0 : Hp} {g : TG} {tt : TT} {vs : List Nat} (as : List α) (f : α → Bool) (gv : α → β) (T : L2.St → Hp → α → Prop)
    (w : Walk J n G Y) (hn : as.length = n) (hz : n ≤ 40000) (hG : ∀ H1, Ex H0 H1 → G H1) (hY : ∀ i H1 x H2 a, as[i]? = some a → Ex H0 H1 → Y i H1 x H2 → Ex H1 H2 ∧ R H2 x a) (mS : Mono S)
    (hg : ∀ x a H1, a ∈ as → Ex H0 H1 → R H1 x a → ∀ Qs : L2.St → Hp → Prop, (∀ σ2 H2, Ex H1 H2 → wipe σ2 vs = wipe σ vs → T σ2 H2 a → Qs σ2 H2) → g x (wipe σ vs) H1 Qs)
    (ht : ∀ σ2 H2 a, a ∈ as → Ex H0 H2 → wipe σ2 vs = wipe σ vs → T σ2 H2 a → EvT tt σ2 H2 (f a))
    (he : ∀ σ2 H2 a D l, a ∈ as → Ex H0 H2 → H0 D = none → H2 D = some (.lst l) → wipe σ2 vs = wipe σ vs → T σ2 H2 a → f a = true → EvR te σ2 H2 (At D S) (gv a))
    {Q : VK} (q : ∀ p H2 xs, H0 p = none → Ex H0 H2 → H2 p = some (.lst xs) → LR S H2 xs ((as.filter f).map gv) → Q (.ref p) H2) :
    ∀ D, H0 D = none → ∃ W : Nat → Nat → Hp → Prop, (∃ m, W 0 m (upd H0 D (.lst []))) ∧ ∀ i m H, W i m H →
      (J.stop i H ∧ Q (.ref D) H) ∨ (J.go i H ∧ ∃ Nx : Hp → Prop, (∀ H', Nx H' → ∃ m', m' < m ∧ W (i + 1) m' H') ∧ ∀ x H', J.yld i H x H' → g x (wipe σ vs) H' fun σ2 H2 => wipe σ2 vs = wipe σ vs ∧ tt σ2 H2 fun b H3 =>
        if b = true then te σ2 H3 fun y H4 => ∃ acc, H4 D = some (.lst acc) ∧ acc.length < sizeLine ∧ Nx (upd H4 D (.lst (acc ++ [y]))) else Nx H3) := by
  intro D hD
  refine lc_it w (fun i H1 => Ex H0 H1 ∧ ∃ xs, H1 D = some (.lst xs) ∧ xs.length ≤ i ∧ LR (At D S) H1 xs (((as.take i).filter f).map gv)) ⟨Ex.new hD, [], upd_same, Nat.zero_le _, by simp; exact .nil⟩ (fun i H1 _ h => hG H1 h.1) ?_ ?_
  · rintro i x H1 H2 hi ⟨e1, xs, hx, hl, hr⟩ hy
    obtain ⟨a, ha⟩ : ∃ a, as[i]? = some a := ⟨as[i]'(by omega), by simp [show i < as.length by omega]⟩
    have hm : a ∈ as := List.mem_of_getElem? ha
    obtain ⟨e2, r2⟩ := hY i H1 x H2 a ha e1 hy
    refine hg x a H2 hm (e1.trans e2) r2 _ fun σ2 H3 e3 hw hT => ⟨hw, ht σ2 H3 a hm ((e1.trans e2).trans e3) hw hT H3 (Ex.refl H3) _ fun H4 e4 => ?_⟩
    have e14 : Ex H1 H4 := (e2.trans e3).trans e4
    have tk : as.take (i + 1) = as.take i ++ [a] := by
      rw [List.take_succ, ha]; rfl
    cases hf : f a with
    | true =>
      show te σ2 H4 _
      refine he σ2 H3 a D xs hm ((e1.trans e2).trans e3) hD ((e2.trans e3) _ _ hx) hw hT hf H4 e4 _ fun y H5 e5 ry => ?_
      have e15 : Ex H1 H5 := e14.trans e5
      refine ⟨xs, e15 _ _ hx, Nat.lt_of_le_of_lt hl (Nat.lt_of_lt_of_le hi (Nat.le_trans hz (by decide))), Ex.mut (e1.trans e15) hD, xs ++ [y], upd_same, by simp; omega, ?_⟩
      rw [tk, List.filter_append, List.map_append]
      have e6 : ([a].filter f).map gv = [gv a] := by simp [hf]
      rw [e6]
      exact (((hr.mono (mAt mS) e15).imp fun v b h => h.upd)).snoc ry.upd
    | false =>
      show Ex H0 H4 ∧ _
      refine ⟨e1.trans e14, xs, e14 _ _ hx, Nat.le_succ_of_le hl, ?_⟩
      rw [tk, List.filter_append, List.map_append]
      have e6 : ([a].filter f).map gv = [] := by simp [hf]
      rw [e6, List.append_nil]
      exact hr.mono (mAt mS) e14
  · rintro H1 ⟨e1, xs, hx, _, hr⟩
    refine q D H1 xs hD e1 hx ?_
    rw [List.take_of_length_le (by omega)] at hr
    exact hr.imp fun v b h => h.1
theorem evr_at {D : Addr} {l : List V} (r : Rob R) (hD : H D = some (.lst l)) (h : EvR te σ H R a) : EvR te σ H (At D R) a := fun H1 e Q q => h H1 e Q fun v H2 e2 rv => q v H2 e2 (r.at ((e.trans e2) _ _ hD) rv)
/-- a new list whose items are new: it is not D -/
theorem evn_at {D : Addr} {l : List V} {as : List α} (r : Rob R) (hD : H D = some (.lst l)) (h : EvN te σ H R as) : EvR te σ H (At D (rLst K R)) as := fun H1 e Q q => h H1 e Q fun p H2 xs hp e2 h2 hl => q _ H2 e2 ⟨⟨p, xs, rfl, sq_of h2, hl⟩, fun ys => by
  have hD1 := e _ _ hD
  have ne : p ≠ D := fun z => by rw [z, hD1] at hp; cases hp
  exact ⟨p, xs, rfl, sq_of (by rw [upd_ne ne]; exact h2), hl.imp fun v a hv => r H2 D l ys v a (e2 _ _ hD1) hv⟩⟩

theorem filter_true (as : List α) : as.filter (fun _ => true) = as := by simp
/-- [e for x in xs if t], xs a list, x a name -/
theorem evn_lcL {tl : TE} {j : Nat} {tt : TT} {vs : List Nat} {as : List α} (f : α → Bool) (gv : α → β) (h : EvR tl σ H (rLst K R) as) (hz : as.length ≤ 40000) (mR : Mono R) (mS : Mono S) (hw : ∀ x, wipe ((wipe σ vs).set j (some x)) vs = wipe σ vs)
    (ht : ∀ x a H1, a ∈ as → Ex H H1 → R H1 x a → EvT tt ((wipe σ vs).set j (some x)) H1 (f a))
    (he : ∀ x a H1 D l, a ∈ as → Ex H H1 → H D = none → H1 D = some (.lst l) → R H1 x a → f a = true → EvR te ((wipe σ vs).set j (some x)) H1 (At D S) (gv a)) : EvN (tLc (iList K tl) (gName j) tt te vs) σ H S ((as.filter f).map gv) := by
  intro H1 e Q q
  refine h H1 e _ fun v H2 e2 ⟨p, xs, hv, hs, hl⟩ => ⟨p, hv, ⟨xs, hs⟩, ?_⟩
  refine evn_it (R := R) (g := gName j) (tt := tt) (te := te) (σ := σ) (vs := vs) (S := S) (H0 := H2) as f gv (fun σ2 H3 a => ∃ x, σ2 = (wipe σ vs).set j (some x) ∧ R H3 x a) (walk_list (K := K) (a := p) (xs := xs)) hl.length.symm (by rw [hl.length]; exact hz) (fun H3 e3 => ex_l e3 hs) (fun i H3 x H4 a ha e3 hy => ?_) mS (fun x a H3 ha e3 r Qs k => k _ _ (Ex.refl _) (hw x) ⟨x, rfl, r⟩)
    (fun σ2 H3 a ha e3 _ ⟨x, h1, h2⟩ => by rw [h1]; exact ht x a H3 ha ((e.trans e2).trans e3) h2) (fun σ2 H3 a D l ha e3 h0 hD _ ⟨x, h1, h2⟩ hf => by rw [h1]; exact he x a H3 D l ha ((e.trans e2).trans e3) (fresh_back (e.trans e2) h0) hD h2 hf) (fun p' H3 xs' h1 h2 h3 h4 => q p' H3 xs' (fresh_back e2 h1) (e2.trans h2) h3 h4)
  obtain ⟨rfl, hx⟩ := hy
  obtain ⟨a', ha', ra⟩ := hl.getV hx
  rw [ha] at ha'
  cases ha'
  exact ⟨Ex.refl _, mR _ _ _ _ e3 ra⟩
/-- .. xs a tuple -/
theorem evn_lcT {tl : TE} {j : Nat} {tt : TT} {vs : List Nat} {as : List α} (f : α → Bool) (gv : α → β) (h : EvR tl σ H (rTpl K R) as) (hz : as.length ≤ 40000) (mR : Mono R) (mS : Mono S) (hw : ∀ x, wipe ((wipe σ vs).set j (some x)) vs = wipe σ vs)
    (ht : ∀ x a H1, a ∈ as → Ex H H1 → R H1 x a → EvT tt ((wipe σ vs).set j (some x)) H1 (f a))
    (he : ∀ x a H1 D l, a ∈ as → Ex H H1 → H D = none → H1 D = some (.lst l) → R H1 x a → f a = true → EvR te ((wipe σ vs).set j (some x)) H1 (At D S) (gv a)) : EvN (tLc (iTup K tl) (gName j) tt te vs) σ H S ((as.filter f).map gv) := by
  intro H1 e Q q
  refine h H1 e _ fun v H2 e2 ⟨p, xs, hv, hs, hl⟩ => ⟨p, hv, ⟨xs, hs⟩, ?_⟩
  refine evn_it (R := R) (g := gName j) (tt := tt) (te := te) (σ := σ) (vs := vs) (S := S) (H0 := H2) as f gv (fun σ2 H3 a => ∃ x, σ2 = (wipe σ vs).set j (some x) ∧ R H3 x a) (walk_tup (K := K) (a := p) (xs := xs)) hl.length.symm (by rw [hl.length]; exact hz) (fun H3 e3 => ex_t e3 hs) (fun i H3 x H4 a ha e3 hy => ?_) mS (fun x a H3 ha e3 r Qs k => k _ _ (Ex.refl _) (hw x) ⟨x, rfl, r⟩)
    (fun σ2 H3 a ha e3 _ ⟨x, h1, h2⟩ => by rw [h1]; exact ht x a H3 ha ((e.trans e2).trans e3) h2) (fun σ2 H3 a D l ha e3 h0 hD _ ⟨x, h1, h2⟩ hf => by rw [h1]; exact he x a H3 D l ha ((e.trans e2).trans e3) (fresh_back (e.trans e2) h0) hD h2 hf) (fun p' H3 xs' h1 h2 h3 h4 => q p' H3 xs' (fresh_back e2 h1) (e2.trans h2) h3 h4)
  obtain ⟨rfl, hx⟩ := hy
  obtain ⟨a', ha', ra⟩ := hl.getV hx
  rw [ha] at ha'
  cases ha'
  exact ⟨Ex.refl _, mR _ _ _ _ e3 ra⟩
theorem et_yes : EvT tYes σ H true := fun H1 _ _ q => q H1 (Ex.refl H1)
/-- no test -/
theorem evn_lcL1 {tl : TE} {j : Nat} {vs : List Nat} {as : List α} (gv : α → β) (h : EvR tl σ H (rLst K R) as) (hz : as.length ≤ 40000) (mR : Mono R) (mS : Mono S) (hw : ∀ x, wipe ((wipe σ vs).set j (some x)) vs = wipe σ vs)
    (he : ∀ x a H1 D l, a ∈ as → Ex H H1 → H D = none → H1 D = some (.lst l) → R H1 x a → EvR te ((wipe σ vs).set j (some x)) H1 (At D S) (gv a)) : EvN (tLc (iList K tl) (gName j) tYes te vs) σ H S (as.map gv) := by
  have z := evn_lcL (te := te) (S := S) (tt := tYes) (fun _ => true) gv h hz mR mS hw (fun x a H1 _ _ _ => et_yes) (fun x a H1 D l h1 h2 h0 h3 h4 _ => he x a H1 D l h1 h2 h0 h3 h4)
  rw [filter_true] at z
  exact z
theorem evn_lcT1 {tl : TE} {j : Nat} {vs : List Nat} {as : List α} (gv : α → β) (h : EvR tl σ H (rTpl K R) as) (hz : as.length ≤ 40000) (mR : Mono R) (mS : Mono S) (hw : ∀ x, wipe ((wipe σ vs).set j (some x)) vs = wipe σ vs)
    (he : ∀ x a H1 D l, a ∈ as → Ex H H1 → H D = none → H1 D = some (.lst l) → R H1 x a → EvR te ((wipe σ vs).set j (some x)) H1 (At D S) (gv a)) : EvN (tLc (iTup K tl) (gName j) tYes te vs) σ H S (as.map gv) := by
  have z := evn_lcT (te := te) (S := S) (tt := tYes) (fun _ => true) gv h hz mR mS hw (fun x a H1 _ _ _ => et_yes) (fun x a H1 D l h1 h2 h0 h3 h4 _ => he x a H1 D l h1 h2 h0 h3 h4)
  rw [filter_true] at z
  exact z
/-- over a text, sign by sign -/
theorem evn_lcS1 {tl : TE} {j : Nat} {vs : List Nat} {z : Str} (gv : Nat → β) (h : EvR tl σ H rStr z) (hz : z.cps.size ≤ 40000) (mS : Mono S) (hw : ∀ x, wipe ((wipe σ vs).set j (some x)) vs = wipe σ vs)
    (he : ∀ c H1 D l, c ∈ z.cps.toList → Ex H H1 → H D = none → H1 D = some (.lst l) → EvR te ((wipe σ vs).set j (some (.str ⟨#[c]⟩))) H1 (At D S) (gv c)) : EvN (tLc (iStr tl) (gName j) tYes te vs) σ H S (z.cps.toList.map gv) := by
  intro H1 e Q q
  refine h H1 e _ fun v H2 e2 hv => ⟨z, hv, ?_⟩
  have k := evn_it (σ := σ) (te := te) (S := S) (g := gName j) (tt := tYes) (vs := vs) (Q := Q) (H0 := H2) (R := fun _ v c => v = V.str ⟨#[c]⟩) z.cps.toList (fun _ => true) gv (fun σ2 H3 c => σ2 = (wipe σ vs).set j (some (.str ⟨#[c]⟩))) (walk_str (z := z)) (by simp) hz (fun _ _ => True.intro) (fun i H3 x H4 c hc e3 hy => ?_) mS
    (fun x c H3 hc e3 hx Qs k => by
      subst hx
      exact k _ _ (Ex.refl _) (hw _) rfl) (fun σ2 H3 c _ _ _ _ => et_yes) (fun σ2 H3 c D l hc e3 h0 hD _ h1 _ => by rw [h1]; exact he c H3 D l hc ((e.trans e2).trans e3) (fresh_back (e.trans e2) h0) hD) (fun p' H3 xs' h1 h2 h3 h4 => q p' H3 xs' (fresh_back e2 h1) (e2.trans h2) h3 (by rw [filter_true] at h4; exact h4))
  · exact k
  · obtain ⟨rfl, c', hc', hx⟩ := hy
    have e : z.cps.toList[i]? = some c' := by rw [Array.getElem?_toList]; exact hc'
    rw [hc] at e
    cases e
    exact ⟨Ex.refl _, hx⟩
theorem lr_bls {H : Hp} : ∀ {xs : List V} {bs : List Bool}, LR rBl H xs bs → xs = bs.map V.bl
  | _, _, .nil => rfl
  | _, _, .cons r t => by
    rw [lr_bls t, show _ = V.bl _ from r]
    rfl
theorem lr_strs {H : Hp} : ∀ {xs : List V} {bs : List Str}, LR rStr H xs bs → xs = bs.map V.str
  | _, _, .nil => rfl
  | _, _, .cons r t => by
    rw [lr_strs t, show _ = V.str _ from r]
    rfl
theorem lr_ints {H : Hp} : ∀ {xs : List V} {bs : List Int}, LR rInt H xs bs → xs = bs.map V.int
  | _, _, .nil => rfl
  | _, _, .cons r t => by
    rw [lr_ints t, show _ = V.int _ from r]
    rfl
theorem evr_all {bs : List Bool} (h : EvN te σ H rBl bs) : EvR (tCB (rAll K) (tCons te tNil)) σ H rBl (bs.all id) := fun H1 e Q q => h H1 e _ fun p H2 xs hp e2 h2 hl => by
  have z := lr_bls hl
  subst z
  exact ⟨p, bs, rfl, sq_of h2, q _ H2 e2 rfl⟩
theorem evr_any {bs : List Bool} (h : EvN te σ H rBl bs) : EvR (tCB (rAny K) (tCons te tNil)) σ H rBl (bs.any id) := fun H1 e Q q => h H1 e _ fun p H2 xs hp e2 h2 hl => by
  have z := lr_bls hl
  subst z
  exact ⟨p, bs, rfl, sq_of h2, q _ H2 e2 rfl⟩
/-- a value told by its reading -/
theorem evr_of (h : ∀ H1, Ex H H1 → ∀ Q : VK, (∀ v H2, Ex H1 H2 → R H2 v a → Q v H2) → te σ H1 Q) : EvR te σ H R a := h
theorem evr_go (h : EvR te σ H R a) {Q : VK} (q : ∀ v H2, Ex H H2 → R H2 v a → Q v H2) : te σ H Q := h H (Ex.refl H) Q q
theorem evn_go {as : List α} (h : EvN te σ H R as) {Q : VK} (q : ∀ p H2 xs, H p = none → Ex H H2 → H2 p = some (.lst xs) → LR R H2 xs as → Q (.ref p) H2) : te σ H Q := h H (Ex.refl H) Q q
variable {D : Ends} {tz : TS}
theorem s_asgN {i : Nat} {as : List α} (h : EvN te σ H R as) (k : ∀ p H1 xs, H p = none → Ex H H1 → H1 p = some (.lst xs) → LR R H1 xs as → D.nx (σ.set i (some (.ref p))) H1) : tAsg te (gName i) D σ H := h H (Ex.refl H) _ k
theorem q_asgN {i : Nat} {as : List α} (h : EvN te σ H R as) (k : ∀ p H1 xs, H p = none → Ex H H1 → H1 p = some (.lst xs) → LR R H1 xs as → tz D (σ.set i (some (.ref p))) H1) : tSeq (tAsg te (gName i)) tz D σ H := h H (Ex.refl H) _ k
theorem s_asgR {i : Nat} (h : EvR te σ H R a) (k : ∀ v H1, Ex H H1 → R H1 v a → D.nx (σ.set i (some v)) H1) : tAsg te (gName i) D σ H := h H (Ex.refl H) _ k
theorem q_asgR {i : Nat} (h : EvR te σ H R a) (k : ∀ v H1, Ex H H1 → R H1 v a → tz D (σ.set i (some v)) H1) : tSeq (tAsg te (gName i)) tz D σ H := h H (Ex.refl H) _ k
theorem s_retN {as : List α} (h : EvN te σ H R as) (k : ∀ p H1 xs, H p = none → Ex H H1 → H1 p = some (.lst xs) → LR R H1 xs as → D.rt (.ref p) H1) : tRet te D σ H := h H (Ex.refl H) _ k
theorem s_retR (h : EvR te σ H R a) (k : ∀ v H1, Ex H H1 → R H1 v a → D.rt v H1) : tRet te D σ H := h H (Ex.refl H) _ k
end
end K19

/-! ## K19A -/
set_option Elab.async false
set_option linter.all false
set_option maxRecDepth 100000
set_option maxHeartbeats 4000000
namespace K19
open PySem PySem.Spec PyProof.Rows L2 Evl
theorem bt_isinstance : bootBuiltins "isinstance" = some (.builtin "isinstance") := by decide +kernel
theorem bt_len : bootBuiltins "len" = some (.builtin "len") := by decide +kernel
theorem bt_all : bootBuiltins "all" = some (.builtin "all") := by decide +kernel
theorem bt_any : bootBuiltins "any" = some (.builtin "any") := by decide +kernel
theorem bt_sorted : bootBuiltins "sorted" = some (.builtin "sorted") := by decide +kernel
theorem bt_enumerate : bootBuiltins "enumerate" = some (.type "enumerate") := by decide +kernel
theorem bt_range : bootBuiltins "range" = some (.type "range") := by decide +kernel
theorem bt_int : bootBuiltins "int" = some (.type "int") := by decide +kernel
theorem bt_bool : bootBuiltins "bool" = some (.type "bool") := by decide +kernel
theorem bt_str : bootBuiltins "str" = some (.type "str") := by decide +kernel
theorem bt_tuple : bootBuiltins "tuple" = some (.type "tuple") := by decide +kernel
theorem bt_list : bootBuiltins "list" = some (.type "list") := by decide +kernel
theorem bt_dict : bootBuiltins "dict" = some (.type "dict") := by decide +kernel
theorem bt_set : bootBuiltins "set" = some (.type "set") := by decide +kernel
theorem bt_ValueError : bootBuiltins "ValueError" = some (.type "ValueError") := by decide +kernel
/-- isinstance(e, T), T a built-in type -/
def rIs (K : PySem.W.Frag) : List V → Hp → VK → Prop := fun xs H Q => ∃ (x : V) (n T : String) (b : Bool), xs = [x, .ty T] ∧ TyX K H x (.type n) ∧ kitB n T = some b ∧ Q (.bl b) H
def tIsi (K : PySem.W.Frag) (T : String) (te : TE) : TE := tCB (rIs K) (tCons te (tCons (tC (.ty T)) tNil))
section
variable {X : Cx}
theorem call_is : CallR X (.builtin "isinstance") (rIs X.K) := by
  intro pins s σ H xs us Q I r h
  obtain ⟨x, n, T, b, rfl, ty, e, q⟩ := h
  exact call_isi pins s σ H _ us Q I r ⟨x, .ty T, .type n, .type T, b, rfl, .ty T, ty, kit_ty e, q⟩
theorem pe_isi {e : Expr} {te : TE} {n : Str} {T : String} {p p2 pos : Pos} (hi : X.mg "isinstance" = none) (hT : X.mg n = none) (hb : bootBuiltins n = some (.type T)) (he : PE X e te) (g1 : Gl X "isinstance" := by rfl) (g2 : Gl X n := by rfl)
    (hn : n ≠ "__name__" := by decide) (hd : (n == ("__debug__" : Str)) = false := by decide)
    (s1 : starEach (e :: [.Name n p2]) X.env = (false, eval e X.env) :: starEach [.Name n p2] X.env := by rfl) (s2 : starEach (.Name n p2 :: []) X.env = (false, eval (.Name n p2) X.env) :: starEach [] X.env := by rfl) (hpl : (backTo pos (starEach [.Name n p2] X.env)).any (·.1) = false := by rfl) :
    PE X (.Call (.Name "isinstance" p) [e, .Name n p2] [] pos) (tIsi X.K T te) :=
  pe_callB call_is g1 hi bt_isinstance (pa_cons he (pa_cons (pe_bltn (v := .ty T) g2 hT hb rfl hn hd) pa_nil s2) s1) (by decide) (by decide) s1 hpl
end
theorem bl_t {c : Prop} [Decidable c] {Q : VK} {H : Hp} (h : c) (q : Q (.bl true) H) : Q (.bl (decide c)) H := by rw [decide_eq_true h]; exact q
theorem bl_f {c : Prop} [Decidable c] {Q : VK} {H : Hp} (h : ¬ c) (q : Q (.bl false) H) : Q (.bl (decide c)) H := by rw [decide_eq_false h]; exact q
theorem blT {c : Prop} [Decidable c] (h : c) : V.bl (decide c) = V.bl true := by rw [decide_eq_true h]
theorem blF {c : Prop} [Decidable c] (h : ¬ c) : V.bl (decide c) = V.bl false := by rw [decide_eq_false h]
/-- a constant of the module -/
theorem pe_gi {X : Cx} {x : Str} {i : Int} {pos : Pos} (h : ∃ t, X.mg x = some (.int i t)) (hg : Gl X x := by rfl) (hd : (x == ("__debug__" : Str)) = false := by decide) : PE X (.Name x pos) (tC (.int i)) := by
  obtain ⟨t, h⟩ := h
  exact pe_glob (v := .int i) hg h ⟨t, rfl⟩ hd
theorem pe_gs {X : Cx} {x z : Str} {pos : Pos} (h : ∃ t, X.mg x = some (.str z t)) (hg : Gl X x := by rfl) (hd : (x == ("__debug__" : Str)) = false := by decide) : PE X (.Name x pos) (tC (.str z)) := by
  obtain ⟨t, h⟩ := h
  exact pe_glob (v := .str z) hg h ⟨t, rfl⟩ hd
/-! the rules that name the written part, K told (for a comprehension's block) -/
section
variable {X : Cx}
theorem ixT (K : PySem.W.Frag) (h : X.K = K := by rfl) : IxR X (rIxT K) := by subst h; exact ix_tup
theorem ixL (K : PySem.W.Frag) (h : X.K = K := by rfl) : IxR X (rIxL K) := by subst h; exact ix_list
theorem lenSq (K : PySem.W.Frag) (h : X.K = K := by rfl) : CallR X (.builtin "len") (fun xs H Q => ∃ p ys, xs = [.ref p] ∧ (SqL K H p ys ∨ SqT K H p ys) ∧ Q (.int ys.length) H) := by subst h; exact call_len_seq
theorem inSq (K : PySem.W.Frag) (h : X.K = K := by rfl) : OpR X (compareOp .In) (rIn K false) := by subst h; exact op_in_seq
theorem notInSq (K : PySem.W.Frag) (h : X.K = K := by rfl) : OpR X (compareOp .NotIn) (rIn K true) := by subst h; exact op_notIn_seq
theorem pe_isiK (K : PySem.W.Frag) {e : Expr} {te : TE} {n : Str} {T : String} {p p2 pos : Pos} (hi : X.mg "isinstance" = none) (hT : X.mg n = none) (hb : bootBuiltins n = some (.type T)) (he : PE X e te) (hK : X.K = K := by rfl) (g1 : Gl X "isinstance" := by rfl) (g2 : Gl X n := by rfl)
    (hn : n ≠ "__name__" := by decide) (hd : (n == ("__debug__" : Str)) = false := by decide)
    (s1 : starEach (e :: [.Name n p2]) X.env = (false, eval e X.env) :: starEach [.Name n p2] X.env := by rfl) (s2 : starEach (.Name n p2 :: []) X.env = (false, eval (.Name n p2) X.env) :: starEach [] X.env := by rfl) (hpl : (backTo pos (starEach [.Name n p2] X.env)).any (·.1) = false := by rfl) :
    PE X (.Call (.Name "isinstance" p) [e, .Name n p2] [] pos) (tIsi K T te) := by
  subst hK
  exact pe_isi hi hT hb he g1 g2 hn hd s1 s2 hpl
end
/-! ### is_integer -/
def spIsInteger : Sp := fun vs H Q _ => ∃ i lo hi : Int, vs = [.int i, .int lo, .int hi] ∧ lo ≤ i ∧ i ≤ hi ∧ Q (.bl true) H
theorem sc_is_integer : FnScope ["value", "low", "high"] p_is_integer (defScope s_is_integer) := ⟨rfl, rfl, rfl, by decide +kernel, rfl, by decide +kernel, by decide +kernel⟩
section
variable {P : Program} {w : World} {K : PySem.W.Frag} {mg : Str → Option Value} {base : Heap}
theorem ok_is_integer (T : Txt K mg) : Cal P w K mg base CX0 1 "is_integer" spIsInteger := by
  refine cal0 (N := ["value", "low", "high"]) T.D_is_integer T.g_is_integer sc_is_integer (fun vs H Q E h => ?_) fun cdv A outer s H vs Q E hr h => ?_
  · obtain ⟨_, _, _, rfl, _⟩ := h; rfl
  · obtain ⟨i, lo, hi, rfl, h1, h2, k⟩ := h
    refine ⟨_, pss_one (ps_ret (pe_and (pe_isi T.f_isinstance T.f_int bt_int (pv 0)) (pe_and (pe_not (pe_isi T.f_isinstance T.f_bool bt_bool (pv 0))) (pe_one (pe_chain op_le op_le (pv 1) (pv 0) (pv 2)))))), ?_⟩
    refine ⟨_, rfl, _, _, _, _, rfl, .base (.int _), by decide +kernel, true, rfl, iteT ?_⟩
    refine ⟨_, rfl, _, _, _, _, rfl, .base (.int _), (by decide +kernel : kitB "int" "bool" = some false), false, rfl, true, rfl, iteT ?_⟩
    refine ⟨_, rfl, _, rfl, _, _, rfl, rfl, true, blT h1, iteT ⟨_, rfl, _, _, rfl, rfl, bl_t h2 k⟩⟩
end
/-! ### is_name, is_short_name, is_choice_word -/
def lets : List Nat := ("abcdefghijklmnopqrstuvwxyz" : Str).cps.toList
def letsH : List Nat := (("abcdefghijklmnopqrstuvwxyz" : Str) ++ ("-" : Str)).cps.toList
/-- the first and the last sign: no hyphen -/
def NameOk (z : Str) : Prop := 1 ≤ z.length ∧ z.length ≤ 12 ∧ (∃ c, z.cps.toList[0]? = some c ∧ c ≠ 45) ∧ (∃ c, z.cps.toList[z.cps.toList.length - 1]? = some c ∧ c ≠ 45) ∧ ∀ c ∈ z.cps.toList, c ∈ letsH
def ShortOk (z : Str) : Prop := z.length ≤ 1 ∧ ∀ c ∈ z.cps.toList, c ∈ lets
def WordOk (z : Str) : Prop := 1 ≤ z.length ∧ z.length ≤ 12 ∧ ∀ c ∈ z.cps.toList, c ∈ lets
def spIsName : Sp := fun vs H Q _ => ∃ z : Str, vs = [.str z] ∧ NameOk z ∧ ∀ H', Ex H H' → Q (.bl true) H'
def spIsShort : Sp := fun vs H Q _ => ∃ z : Str, vs = [.str z] ∧ ShortOk z ∧ ∀ H', Ex H H' → Q (.bl true) H'
def spIsWord : Sp := fun vs H Q _ => ∃ z : Str, vs = [.str z] ∧ WordOk z ∧ ∀ H', Ex H H' → Q (.bl true) H'
theorem len_tl (z : Str) : z.cps.toList.length = z.length := by simp [Str.length]
theorem line12 {n : Nat} (h : n ≤ 12) : n ≤ sizeLine := Nat.le_trans h (by decide)
theorem at0 {α : Type} {xs : List α} {v : α} (h : xs[0]? = some v) : atI xs 0 = some v := atI_nat (j := 0) h
theorem atM1 {α : Type} {xs : List α} {v : α} (h : xs[xs.length - 1]? = some v) : atI xs (-1) = some v := by
  have hp : 0 < xs.length := by
    have := (List.getElem?_eq_some_iff.mp h).1
    omega
  unfold atI ixN
  rw [if_neg (by omega), if_pos (by omega)]
  have e : ((-1 : Int) + (xs.length : Int)).toNat = xs.length - 1 := by omega
  show xs[((-1 : Int) + (xs.length : Int)).toNat]? = some v
  rw [e]
  exact h
theorem sign_ne {c : Nat} (h : c ≠ 45) : V.bl (decide (V.str ⟨#[c]⟩ = V.str "-")) = V.bl false := blF fun z => by
  injection z with z
  have z2 := congrArg (fun x : Str => x.cps.toList) z
  have z3 : [c] = [45] := z2
  injection z3 with z4 _
  exact h z4
theorem all_true {α : Type} {as : List α} {p : α → Bool} (h : ∀ a ∈ as, p a = true) : (as.map p).all id = true := by
  simp only [List.all_map, List.all_eq_true]
  exact h
theorem sc_is_name : FnScope ["value", "character"] p_is_name (defScope s_is_name) := ⟨rfl, rfl, rfl, by decide +kernel, rfl, by decide +kernel, by decide +kernel⟩
theorem sc_is_short_name : FnScope ["value", "character"] p_is_short_name (defScope s_is_short_name) := ⟨rfl, rfl, rfl, by decide +kernel, rfl, by decide +kernel, by decide +kernel⟩
theorem sc_is_choice_word : FnScope ["value", "character"] p_is_choice_word (defScope s_is_choice_word) := ⟨rfl, rfl, rfl, by decide +kernel, rfl, by decide +kernel, by decide +kernel⟩
section
variable {P : Program} {w : World} {K : PySem.W.Frag} {mg : Str → Option Value} {base : Heap}
theorem ok_is_name (T : Txt K mg) : Cal P w K mg base CX0 1 "is_name" spIsName := by
  refine cal0 (N := ["value", "character"]) T.D_is_name T.g_is_name sc_is_name (fun vs H Q E h => ?_) fun cdv A outer s H vs Q E hr h => ?_
  · obtain ⟨_, rfl, _⟩ := h; rfl
  · obtain ⟨z, rfl, ⟨h1, h2, ⟨c0, e0, n0⟩, ⟨c1, e1, n1⟩, h5⟩, k⟩ := h
    refine ⟨_, pss_cons (ps_if (PW.pt (pw_or (pt_not (pt_val (pe_isi T.f_isinstance T.f_str bt_str (pv 0)))) (pw_or1 (pt_not (pt_chain op_le op_le pe_int (pe_callB call_len_str rfl T.f_len bt_len (pa_cons (pv 0) pa_nil)) (pe_gi T.i_MAX_NAME_LENGTH)))))) pss_never pss_nil)
      (pss_cons (ps_if (PW.pt (pw_or (pt_cmpR op_eq (pe_ix ix_str (pv 0) pe_int (fun _ _ => rfl)) (pe_gs T.t_HYPHEN) (nomark _)) (pw_or1 (pt_cmpR op_eq (pe_ix ix_str (pv 0) (pe_un un_neg pe_int) (fun _ _ => rfl)) (pe_gs T.t_HYPHEN) (nomark _))))) pss_never pss_nil)
      (pss_one (ps_ret (pe_callB (cr_all rfl) rfl T.f_all bt_all (pa_cons (pe_lc (own := [("character", 1)]) (g := gName 1) (tt := tYes) rfl sc_is_name.nd (pi_str (pv 0)) (blkOk_by (N := ["value", "character"]) (sc := defScope s_is_name) (by decide +kernel)) (fun _ _ _ _ _ => pg_name (i := 1) sc_is_name.nd rfl (Or.inl rfl)) (fun _ _ _ _ _ => pts_nil)
        (fun _ _ _ _ _ => pe_cmpR op_in_sign (pv 1) (pe_op op_add_str (pe_gs T.t_LETTERS) (pe_gs T.t_HYPHEN)) rfl)) pa_nil))))), ?_⟩
    refine ⟨_, rfl, _, _, _, _, rfl, .base (.str _), (by decide +kernel : kitB "str" "str" = some true), true, rfl, iteF ?_⟩
    refine ⟨_, rfl, z, rfl, line12 h2, _, _, rfl, rfl, true, blT (by omega), iteT ⟨_, _, rfl, rfl, true, blT (by omega), iteF ?_⟩⟩
    refine ⟨_, rfl, _, _, _, rfl, rfl, line12 h2, at0 e0, rfl, false, sign_ne n0, iteF ?_⟩
    refine ⟨_, rfl, _, rfl, _, _, _, rfl, rfl, line12 h2, atM1 e1, rfl, false, sign_ne n1, iteF ?_⟩
    refine evr_go (R := rBl) (evr_all (evn_lcS1 (S := rBl) (z := z) (fun c => decide (c ∈ letsH)) (evr_var mStr rfl rfl) (by have := len_tl z; simp at this; omega) mBl (fun _ => rfl) fun c H1 D l hc e hD0 hD => ?_)) fun v H2 e2 hv => ?_
    · refine evr_at bBl hD fun H2 e2 Q q => ?_
      exact ⟨_, rfl, _, _, rfl, rfl, by decide, c, _, rfl, rfl, q _ H2 (Ex.refl _) rfl⟩
    · rw [show v = _ from hv, all_true (fun c hc => decide_eq_true (h5 c hc))]
      exact k H2 e2
theorem ok_is_short_name (T : Txt K mg) : Cal P w K mg base CX0 1 "is_short_name" spIsShort := by
  refine cal0 (N := ["value", "character"]) T.D_is_short_name T.g_is_short_name sc_is_short_name (fun vs H Q E h => ?_) fun cdv A outer s H vs Q E hr h => ?_
  · obtain ⟨_, rfl, _⟩ := h; rfl
  · obtain ⟨z, rfl, ⟨h2, h5⟩, k⟩ := h
    have hz : z.length ≤ 12 := by omega
    refine ⟨_, (pss_one (ps_ret (pe_and (pe_isi T.f_isinstance T.f_str bt_str (pv 0)) (pe_and (pe_cmpR op_le (pe_callB call_len_str rfl T.f_len bt_len (pa_cons (pv 0) pa_nil)) pe_int (nomark _))
      (pe_one (pe_callB (cr_all rfl) rfl T.f_all bt_all (pa_cons (pe_lc (own := [("character", 1)]) (g := gName 1) (tt := tYes) rfl sc_is_short_name.nd (pi_str (pv 0)) (blkOk_by (N := ["value", "character"]) (sc := defScope s_is_short_name) (by decide +kernel)) (fun _ _ _ _ _ => pg_name (i := 1) sc_is_short_name.nd rfl (Or.inl rfl)) (fun _ _ _ _ _ => pts_nil)
        (fun _ _ _ _ _ => pe_cmpR op_in_sign (pv 1) (pe_gs T.t_LETTERS) rfl)) pa_nil))))))), ?_⟩
    refine ⟨_, rfl, _, _, _, _, rfl, .base (.str _), (by decide +kernel : kitB "str" "str" = some true), true, rfl, iteT ?_⟩
    refine ⟨_, rfl, z, rfl, line12 hz, _, _, rfl, rfl, true, blT (by omega), iteT ?_⟩
    refine evr_go (R := rBl) (evr_all (evn_lcS1 (S := rBl) (z := z) (fun c => decide (c ∈ lets)) (evr_var mStr rfl rfl) (by have := len_tl z; simp at this; omega) mBl (fun _ => rfl) fun c H1 D l hc e hD0 hD => ?_)) fun v H2 e2 hv => ?_
    · refine evr_at bBl hD fun H2 e2 Q q => ?_
      exact ⟨_, rfl, c, _, rfl, rfl, q _ H2 (Ex.refl _) rfl⟩
    · rw [show v = _ from hv, all_true (fun c hc => decide_eq_true (h5 c hc))]
      exact k H2 e2
theorem ok_is_choice_word (T : Txt K mg) : Cal P w K mg base CX0 1 "is_choice_word" spIsWord := by
  refine cal0 (N := ["value", "character"]) T.D_is_choice_word T.g_is_choice_word sc_is_choice_word (fun vs H Q E h => ?_) fun cdv A outer s H vs Q E hr h => ?_
  · obtain ⟨_, rfl, _⟩ := h; rfl
  · obtain ⟨z, rfl, ⟨h1, h2, h5⟩, k⟩ := h
    refine ⟨_, pss_cons (ps_if (PW.pt (pw_or (pt_not (pt_val (pe_isi T.f_isinstance T.f_str bt_str (pv 0)))) (pw_or1 (pt_not (pt_chain op_le op_le pe_int (pe_callB call_len_str rfl T.f_len bt_len (pa_cons (pv 0) pa_nil)) (pe_gi T.i_MAX_WORD_LENGTH)))))) pss_never pss_nil)
      (pss_one (ps_ret (pe_callB (cr_all rfl) rfl T.f_all bt_all (pa_cons (pe_lc (own := [("character", 1)]) (g := gName 1) (tt := tYes) rfl sc_is_choice_word.nd (pi_str (pv 0)) (blkOk_by (N := ["value", "character"]) (sc := defScope s_is_choice_word) (by decide +kernel)) (fun _ _ _ _ _ => pg_name (i := 1) sc_is_choice_word.nd rfl (Or.inl rfl)) (fun _ _ _ _ _ => pts_nil)
        (fun _ _ _ _ _ => pe_cmpR op_in_sign (pv 1) (pe_gs T.t_LETTERS) rfl)) pa_nil)))), ?_⟩
    refine ⟨_, rfl, _, _, _, _, rfl, .base (.str _), (by decide +kernel : kitB "str" "str" = some true), true, rfl, iteF ?_⟩
    refine ⟨_, rfl, z, rfl, line12 h2, _, _, rfl, rfl, true, blT (by omega), iteT ⟨_, _, rfl, rfl, true, blT (by omega), iteF ?_⟩⟩
    refine evr_go (R := rBl) (evr_all (evn_lcS1 (S := rBl) (z := z) (fun c => decide (c ∈ lets)) (evr_var mStr rfl rfl) (by have := len_tl z; simp at this; omega) mBl (fun _ => rfl) fun c H1 D l hc e hD0 hD => ?_)) fun v H2 e2 hv => ?_
    · refine evr_at bBl hD fun H2 e2 Q q => ?_
      exact ⟨_, rfl, c, _, rfl, rfl, q _ H2 (Ex.refl _) rfl⟩
    · rw [show v = _ from hv, all_true (fun c hc => decide_eq_true (h5 c hc))]
      exact k H2 e2
end
end K19

/-! ## K19As -/
set_option Elab.async false
set_option linter.all false
set_option maxRecDepth 100000
set_option maxHeartbeats 4000000
namespace K19
open PySem PySem.Spec PyProof.Rows L2 Evl
/-! ### lists without doubles -/
def addU (L : List Str) (z : Str) : List Str := if z ∈ L then L else L ++ [z]
def dedupS (l : List Str) : List Str := l.foldl (fun acc z => if z ∈ acc then acc else acc ++ [z]) []
theorem dedup_take {l : List Str} {i : Nat} {z : Str} (h : l[i]? = some z) : dedupS (l.take (i + 1)) = addU (dedupS (l.take i)) z := by
  unfold dedupS addU
  rw [List.take_add_one, h, Option.toList_some, List.foldl_append]
  rfl
theorem dedup_nodup : ∀ (l acc : List Str), (acc ++ l).Nodup → l.foldl (fun acc z => if z ∈ acc then acc else acc ++ [z]) acc = acc ++ l
  | [], acc, _ => by simp
  | x :: r, acc, h => by
    have hx : x ∉ acc := fun m => by
      have := (List.nodup_append.mp h).2.2 x m x (List.mem_cons_self ..)
      exact this rfl
    rw [List.foldl_cons, if_neg hx, dedup_nodup r (acc ++ [x]) (by rw [List.append_assoc]; exact h), List.append_assoc]
    rfl
theorem dedupS_nodup {l : List Str} (h : l.Nodup) : dedupS l = l := by
  have := dedup_nodup l [] (by simpa using h)
  simpa [dedupS] using this
theorem dedup_len : ∀ (l acc : List Str), (l.foldl (fun acc z => if z ∈ acc then acc else acc ++ [z]) acc).length ≤ acc.length + l.length
  | [], acc => by simp
  | x :: r, acc => by
    rw [List.foldl_cons]
    refine Nat.le_trans (dedup_len r _) ?_
    split
    · simp only [List.length_cons]; omega
    · simp only [List.length_append, List.length_cons, List.length_nil]; omega
theorem dedup_len0 (l : List Str) : (dedupS l).length ≤ l.length := by
  have := dedup_len l []
  simpa [dedupS] using this
/-! ### what a set of texts is -/
def keyT (e : Int × Value) : Str := match e.2 with | .str k _ => k | _ => Str.empty
def OkT (w : World) (e : Int × Value) : Prop := ∃ k u, e.2 = Value.str k u ∧ e.1 = hashStr w k
structure TxI (w : World) (L : List Str) (o : Obj) (es : Array (Int × Value)) (ep : Nat) (t : SetTable) : Prop where
  ex : o.ExactSet
  dat : o.data = .set es ep t
  ok : ∀ e ∈ es.toList, OkT w e
  pm : (es.toList.map keyT).Perm L
  nd : L.Nodup
  few : es.size < scanBound
  fit : t.fits es.size = true
  ris : Ris t.place.toList
  led : w.params.followText "set-order" = true ∨ t.led = true
def TxR (w : World) (h : Heap) (a : Addr) (L : List Str) : Prop := ∃ o es ep t, h.get? a = some o ∧ TxI w L o es ep t
theorem TxI.size {w : World} {L : List Str} {o : Obj} {es : Array (Int × Value)} {ep : Nat} {t : SetTable} (J : TxI w L o es ep t) : es.size = L.length := by
  rw [← J.pm.length_eq, List.length_map, Array.length_toList]
section
variable {Pg : Program} {w : World} {A : Around} {E : Value → Shared → Prop} {s : Shared} {a : Addr} {L : List Str}
theorem txr_at {h h' : Heap} (J : TxR w h a L) (k : ∀ o, h.get? a = some o → h'.get? a = some o) : TxR w h' a L := by
  obtain ⟨o, es, ep, t, ho, J⟩ := J
  exact ⟨o, es, ep, t, k o ho, J⟩
theorem okT_elems {l : List (Int × Value)} (g : ∀ e ∈ l, OkT w e) : ElemsOf (PySem.strKind Pg w) l := fun e he => by
  obtain ⟨k, u, e1, e2⟩ := g e he
  exact ⟨⟨k, by rw [e1]; exact strKind_is Pg w k u, e2⟩, by rw [e1] <;> rfl⟩
theorem okT_is {e : Int × Value} (g : OkT w e) (k : Str) : (PySem.strKind Pg w).is k e.2 = true ↔ keyT e = k := by
  obtain ⟨k0, u, e1, _⟩ := g
  unfold keyT
  rw [e1]
  exact beq_iff_eq
theorem okT_mem {l : List (Int × Value)} (g : ∀ e ∈ l, OkT w e) (k : Str) : k ∈ l.map keyT ↔ ∃ e ∈ l, (PySem.strKind Pg w).is k e.2 = true := by
  rw [List.mem_map]
  exact ⟨fun ⟨e, he, q⟩ => ⟨e, he, (okT_is (g e he) k).mpr q⟩, fun ⟨e, he, q⟩ => ⟨e, he, (okT_is (g e he) k).mp q⟩⟩
theorem tx_tail {g : Bool → Sem Unit} (hg : ∀ (b : Bool) (z : Shared) (Z : Unit → Shared → Prop), Z () z → wpAny (model Pg w) A (g b) Z E z)
    {o : Obj} {es : Array (Int × Value)} {ep : Nat} {t : SetTable} (ho : s.heap.get? a = some o) (hex : o.ExactSet) (hd : o.data = .set es ep t)
    {ea : Array (Int × Value)} {tb : SetTable} (ga : ∀ e ∈ ea.toList, OkT w e) (pa : (ea.toList.map keyT).Perm L) (nd : L.Nodup)
    (fewa : ea.size < scanBound) (fb : tb.fits ea.size = true) (rb : Ris tb.place.toList) (lb : w.params.followText "set-order" = true ∨ tb.led = true) {dum : Bool} {R : Option Bool → Shared → Prop}
    (hR : ∀ h', Heap.SameBut a s.heap h' → TxR w h' a L → R (some true) { s with heap := h' }) :
    wpAny (model Pg w) A (do
        storeSet a ea tb
        if (!dum && tb.tooFull) = true then do
            g (relayAll tb ea (SetTable.grown ea.size)).2.2
            storeSet a (relayAll tb ea (SetTable.grown ea.size)).1 (relayAll tb ea (SetTable.grown ea.size)).2.1
            pure (some true)
          else pure (some true)) R E s := by
  refine wpAny_bind (wpAny_storeSet_of ho hd ?_ (fits_of_scanBound fewa))
  have hoa := store_at (es' := ea) (t' := tb) ho hd
  have sba := Heap.SameBut.update s.heap a (Obj.putSet ea tb)
  split
  · have pm := relayAll_perm tb ea (SetTable.grown ea.size)
    have fc := relayAll_fits tb ea (SetTable.grown ea.size)
    have rc := relayAll_ris tb ea (SetTable.grown ea.size)
    have lc := relayAll_led tb ea (SetTable.grown ea.size)
    generalize relayAll tb ea (SetTable.grown ea.size) = Z at pm fc rc lc ⊢
    obtain ⟨ec, tc, gave⟩ := Z
    dsimp only at pm fc rc lc ⊢
    have hsz : ec.size = ea.size := by rw [← Array.length_toList, pm.length_eq, Array.length_toList]
    have fewc : ec.size < scanBound := by omega
    refine wpAny_bind (hg _ _ _ ?_)
    refine wpAny_bind (wpAny_storeSet_of hoa rfl ?_ (fits_of_scanBound fewc))
    refine wpAny_pure (hR _ (sba.trans (Heap.SameBut.update _ a _)) ⟨_, ec, ep + 1 + 1, tc, store_at (es' := ec) (t' := tc) hoa rfl, ?_⟩)
    exact ⟨hex, rfl, fun e he => ga e (pm.mem_iff.mp he), (pm.map keyT).trans pa, nd, fewc, fc, rc, lb.imp id fun z => by rw [lc]; exact z⟩
  · exact wpAny_pure (hR _ sba ⟨_, ea, _, tb, hoa, hex, rfl, ga, pa, nd, fewa, fb, rb, lb⟩)
theorem tx_add {k : Str} {u : Tok} {Q : Bool → Shared → Prop} (J : TxR w s.heap a L) (room : L.length + 1 < scanBound)
    (hQ : ∀ b h', Heap.SameBut a s.heap h' → TxR w h' a (addU L k) → Q b { s with heap := h' }) :
    wpAny (model Pg w) A (setAddHashed a (.str k u) ((PySem.strKind Pg w).hash k)) Q E s := by
  obtain ⟨o, es, ep, t, ho, J⟩ := J
  have hkey : (PySem.strKind Pg w).is k (.str k u) = true := strKind_is Pg w k u
  have hsc : (Value.str k u).scannable = true := rfl
  have hel : ElemsOf (PySem.strKind Pg w) es.toList := okT_elems J.ok
  have hmem := okT_mem (Pg := Pg) J.ok k
  unfold setAddHashed setAddHashedIn
  refine wpAny_holding (wpAny_bind (wpAny_setState_of ho J.dat J.fit ?_))
  dsimp only
  rw [byScan_of hsc J.few hel]
  simp only [↓reduceIte]
  unfold setAddByScan
  refine wpAny_bind (wpAny_bind (wpAny_rule (wpAny_bind (wpAny_setScan_of hkey ho J.dat J.fit hel ?_))))
  cases hfi : List.findIdx? (fun e => (PySem.strKind Pg w).is k e.2) es.toList with
  | some j =>
    dsimp only
    obtain ⟨hj, pj, _⟩ := List.findIdx?_eq_some_iff_getElem.mp hfi
    have hk : k ∈ L := J.pm.mem_iff.mp (hmem.mpr ⟨es.toList[j], List.getElem_mem hj, pj⟩)
    exact wpAny_pure (wpAny_pure (hQ _ s.heap (Heap.SameBut.refl a s.heap) ⟨o, es, ep, t, ho, by unfold addU; rw [if_pos hk]; exact J⟩))
  | none =>
    dsimp only
    have hnk : k ∉ L := fun z => by
      obtain ⟨e, he, q⟩ := hmem.mp (J.pm.mem_iff.mpr z)
      exact absurd q (by simp [List.findIdx?_eq_none_iff.mp hfi e he])
    have gwy : ∀ (b : Bool) {z : Shared} {Z : Unit → Shared → Prop}, Z () z → wpAny (model Pg w) A (match b with | true => rule "set.scan.the-table-gave-way" | false => pure ()) Z E z := fun b z Z q => by
      cases b
      · exact wpAny_pure q
      · exact wpAny_rule q
    have pm := layNew_perm t es ((PySem.strKind Pg w).hash k) (.str k u)
    have fa := layNew_fits t es ((PySem.strKind Pg w).hash k) (.str k u)
    have ra := layNew_ris t es ((PySem.strKind Pg w).hash k) (.str k u) J.ris
    have la := layNew_led t es ((PySem.strKind Pg w).hash k) (.str k u)
    generalize layNew t es ((PySem.strKind Pg w).hash k) (.str k u) = Z at pm fa ra la ⊢
    obtain ⟨ea, tb, dum, gave⟩ := Z
    dsimp only at pm fa ra la ⊢
    rw [Array.toList_push] at pm
    have pc : ea.toList.Perm (((PySem.strKind Pg w).hash k, Value.str k u) :: es.toList) := pm.trans (List.perm_append_singleton _ _)
    have ga : ∀ e ∈ ea.toList, OkT w e := fun e he => by
      rcases List.mem_cons.mp (pc.mem_iff.mp he) with z | z
      · rw [z]; exact ⟨k, u, rfl, rfl⟩
      · exact J.ok e z
    have ql : addU L k = L ++ [k] := if_neg hnk
    have pk : (ea.toList.map keyT).Perm (addU L k) := by
      rw [ql]
      refine (pc.map keyT).trans ?_
      rw [List.map_cons]
      exact (List.Perm.cons k J.pm).trans (List.perm_append_singleton k L).symm
    have ndk : (addU L k).Nodup := by
      rw [ql]
      exact (List.perm_append_singleton k L).nodup_iff.mpr (List.nodup_cons.mpr ⟨hnk, J.nd⟩)
    have fewa : ea.size < scanBound := by
      have e1 : ea.size = es.size + 1 := by rw [← Array.length_toList, pc.length_eq, List.length_cons, Array.length_toList]
      rw [e1, J.size]; exact room
    have leda : w.params.followText "set-order" = true ∨ tb.led = true := J.led.imp id fun z => by rw [la]; exact z
    refine wpAny_bind (gwy _ ?_)
    split
    · refine wpAny_bind ?_
      rw [hashByValue_scannable 8 hsc]
      refine wpAny_pure (tx_tail (fun b z Z q => ?_) ho J.ex J.dat ga pk ndk fewa ?_ ?_ ?_ fun h' sb r => ?_)
      · cases b
        · exact wpAny_pure q
        · exact wpAny_rule q
      · split <;> first | exact fa | exact SetTable.fits_plain_off fa
      · split <;> exact ra
      · split <;> exact leda
      · dsimp only; exact wpAny_pure (hQ _ h' sb r)
    · refine wpAny_bind (wpAny_pure ?_)
      simp only [↓reduceIte]
      refine tx_tail (fun b z Z q => ?_) ho J.ex J.dat ga pk ndk fewa fa ra leda fun h' sb r => ?_
      · cases b
        · exact wpAny_pure q
        · exact wpAny_rule q
      · dsimp only; exact wpAny_pure (hQ _ h' sb r)
/-- the set fills from what is walked -/
theorem tx_loop {it : Addr} {fp wr : List Addr} {G : Array GenState → Array GenState → Prop} {n : Nat} {Pv : Nat → Value → Prop} {St : Nat → Shared → Prop} {R : Result → Shared → Prop}
    (W : WalksS Pg w A.in1 it fp wr G n Pv St) (S : Addr) (out : S ∉ fp) (xs : List Str) (hn : n = xs.length) (few : xs.length + 1 < scanBound) (hval : ∀ i v, Pv i v → ∃ z u, xs[i]? = some z ∧ v = .str z u) :
    ∀ (k i : Nat) (s : Shared), n - i = k → i ≤ n → St i s → TxR w s.heap S (dedupS (xs.take i)) →
      (∀ s', Moved (S :: wr) G s s' → TxR w s'.heap S (dedupS xs) → R (.ok (.ret .none)) s') → codeAny (model Pg w) A (.builtin "set.update.loop" ⟨[.ref S, .ref it], []⟩) R s := by
  have offw : S ∉ wr := fun m => out (W.sub _ m)
  have wid : ∀ b ∈ wr, b ∈ S :: wr := fun b m => List.mem_cons_of_mem _ m
  intro k
  induction k with
  | zero =>
    intro i s hk hi hst J hR
    obtain rfl : i = n := by omega
    refine codeAny_builtin PyProof.Rows.F.entry_set_update_loop ?_
    rw [Around.under_plainId PyProof.Rows.F.plain_set_update_loop _]
    show wpAny _ A.in1 (pyNext (.ref it) >>= _) _ _ s
    refine wpAny_bind (W.done s _ _ hst fun s' hm => (show wpAny _ A.in1 (ret Value.none) _ _ s' from wpAny_pure (hR s' (hm.mono wid) ?_)))
    rw [List.take_of_length_le (by omega)] at J
    exact txr_at J fun o e => hm.heap S o offw e
  | succ k ih =>
    intro i s hk hi hst J hR
    have lt : i < n := by omega
    refine codeAny_builtin PyProof.Rows.F.entry_set_update_loop ?_
    rw [Around.under_plainId PyProof.Rows.F.plain_set_update_loop _]
    show wpAny _ A.in1 (pyNext (.ref it) >>= _) _ _ s
    refine wpAny_bind (W.item i s _ _ lt hst fun v s' hP hst' hm => ?_)
    obtain ⟨z, u, hz, rfl⟩ := hval i v hP
    have J1 : TxR w s'.heap S (dedupS (xs.take i)) := txr_at J fun o e => hm.heap S o offw e
    show wpAny _ A.in1 (holding [Value.str z u] (setAdd S (.str z u)) >>= _) _ _ s'
    refine wpAny_bind (wpAny_holding ?_)
    unfold setAdd
    refine wpAny_holding (wpAny_bind ((PySem.strKind Pg w).pyHash (k := z) (strKind_is _ _ _ _) ?_))
    have room : (dedupS (xs.take i)).length + 1 < scanBound := by
      have := dedup_len0 (xs.take i)
      rw [List.length_take] at this
      omega
    refine tx_add (s := { s' with toks := s'.toks + 1 }) J1 room fun b h' sb J2 => ?_
    have J3 : TxR w h' S (dedupS (xs.take (i + 1))) := by rw [dedup_take hz]; exact J2
    refine wpAny_pure ⟨plainId_quiet PyProof.Rows.F.plain_set_update_loop _, ih (i + 1) _ (by omega) lt (W.frame _ s' _ _ hst' (Nat.le_succ _) fun c hc o e => ?_) J3 fun s2 m2 J4 => ?_⟩
    · rw [sb.2 c fun q : c = S => out (q ▸ hc)]
      exact e
    · refine hR s2 (Moved.trans W.gtrans ((hm.mono wid).then_heap (Nat.le_succ _) fun c o hc e => ?_) m2) J4
      rw [sb.2 c fun q : c = S => hc (q ▸ List.mem_cons_self)]
      exact e
theorem txr_new {h : Heap} (ho : h.get? a = some { cls := .type "set", dict := none, data := .set #[] 0 (.fresh 0 0 (!w.params.followText "set-order")) }) : TxR w h a [] := by
  refine ⟨_, #[], 0, _, ho, ⟨rfl, rfl, rfl⟩, rfl, fun e he => by simp at he, by simp, List.nodup_nil, by decide, rfl, List.Pairwise.nil, ?_⟩
  show _ ∨ (!w.params.followText "set-order") = true
  cases w.params.followText "set-order" <;> simp
theorem txs_at : ∀ {us : List Value} {xs : List Str}, StrsAre us xs → ∀ (i : Nat) (v : Value), us[i]? = some v → ∃ z u, xs[i]? = some z ∧ v = .str z u
  | _, _, .nil, i, v, h => by simp at h
  | _, _, .cons n t hr, 0, v, h => by
    simp at h
    exact ⟨n, t, rfl, h.symm⟩
  | _, _, .cons n t hr, i + 1, v, h => by
    obtain ⟨z, u, e1, e2⟩ := txs_at hr i v (by simpa using h)
    exact ⟨z, u, by simpa using e1, e2⟩
/-- set(xs), xs a list of texts -/
theorem tx_set_list {l : Addr} {items : Array Value} {xs : List Str} {Q : Value → Shared → Prop} (hh : A.handled = none) (hl : s.heap.IsList l items) (hi : StrsAre items.toList xs) (few : Unit → xs.length + 1 < scanBound)
    (h : ∀ (h' : Heap) (tk : Nat), TxR w h' s.heap.objs.size (dedupS xs) → (∀ b o, s.heap.get? b = some o → h'.get? b = some o) → Q (.ref s.heap.objs.size) { s with heap := h', toks := tk }) :
    wpAny (model Pg w) A (call (.type "set") [.ref l]) Q E s := by
  obtain ⟨mc, mt, hmro⟩ := PySem.F.called_set.mro
  have q1 := PySem.F.called_set.made
  have q2 := PySem.F.called_set.sub
  refine wpAny_call (codeAny_of_tree ?_)
  show wpAny _ _ (callAny (.type "set") _) _ _ _
  refine wpAny_pure ⟨Code.quiet_builtin _ (by decide +kernel), codeAny_builtin PySem.F.entry_type_call ?_⟩
  rw [Around.under_plain (weight_type_call_type "set" [.ref l] []) rfl]
  have q3 := PySem.F.called_set.notType
  have q4 := PySem.F.called_set.canCreate
  have q5 := PySem.F.typeCall_set_1 (.ref l)
  repeat (any_goals (first | wp_step | assumption))
  refine codeAny_mono (code_set_led1 (.ref l) (E := E) (Q₁ := fun obj z => obj = .ref s.heap.objs.size ∧ z = { s with heap := s.heap.push { cls := .type "set", dict := none, data := .set #[] 0 (.fresh 0 0 (!w.params.followText "set-order")) } }) ⟨rfl, rfl⟩) fun r z hr => ?_
  cases r with
  | error e => exact hr
  | ok fl => cases fl with
    | ret obj =>
      obtain ⟨rfl, rfl⟩ := hr
      have at0 : (s.heap.push { cls := .type "set", dict := none, data := .set #[] 0 (.fresh 0 0 (!w.params.followText "set-order")) }).get? s.heap.objs.size = some { cls := .type "set", dict := none, data := .set #[] 0 (.fresh 0 0 (!w.params.followText "set-order")) } := Heap.get?_push_size _ rfl
      have ty0 : Shared.TypeIs { s with heap := s.heap.push { cls := .type "set", dict := none, data := .set #[] 0 (.fresh 0 0 (!w.params.followText "set-order")) } } (.ref s.heap.objs.size) "set" := ⟨_, at0, rfl⟩
      have q6 := PySem.F.called_set.init.lookup
      have q7 := PySem.F.called_set.init.bind (.ref s.heap.objs.size)
      repeat (any_goals (first | wp_step | assumption))
      refine codeAny_mono (codeAny_call_builtin (R := wants (fun r z => r = .none ∧ ∃ h' tk, z = { s with heap := h', toks := tk } ∧ TxR w h' s.heap.objs.size (dedupS xs) ∧ (∀ b o, s.heap.get? b = some o → h'.get? b = some o)) E) PySem.F.called_set.init.plain PySem.F.entry_set_init (check_set_init_1 ty0 ?_)) fun r z hr => ?_
      · clear h q1 q2 q3 q4 q5 q6 q7 hmro
        obtain ⟨⟨oc, od, oe, os⟩, hol, hcl, nl, hdl⟩ := hl
        simp only at hcl hdl
        subst hcl
        subst hdl
        have hol1 : (s.heap.push { cls := .type "set", dict := none, data := .set #[] 0 (.fresh 0 0 (!w.params.followText "set-order")) }).get? l = some { cls := .type "list", dict := od, data := .seq items nl, slots := os } := Heap.get?_push_of_some _ hol
        have q8 := PySem.F.sub_list_set
        have q9 := PySem.F.sub_list_frozenset
        have qa : (Value.type "list" == Value.type "dict") = false := by decide
        have hl1 : (s.heap.push { cls := .type "set", dict := none, data := .set #[] 0 (.fresh 0 0 (!w.params.followText "set-order")) }).IsList l items := ⟨_, hol1, rfl, nl, rfl⟩
        unfold Builtin.«set.__init__» noKeywords Builtin.Frozenset.updateFrom
        generalize hPI : pyIter = PI
        wp_walk
        subst hPI
        refine wpAny_pyIter_list hl1 (wpAny_bind (wpAny_runValue ?_))
        have ltl : l < s.heap.objs.size := Heap.lt_size hol
        have hh3 : A.in1.in1.in1.handled = none := by simp [hh]
        have z1 : (s.heap.push { cls := .type "set", dict := none, data := .set #[] 0 (.fresh 0 0 (!w.params.followText "set-order")) }).objs.size = s.heap.objs.size + 1 := Heap.size_push ..
        have ne1 : l ≠ (s.heap.push { cls := .type "set", dict := none, data := .set #[] 0 (.fresh 0 0 (!w.params.followText "set-order")) }).objs.size := by rw [z1]; exact Nat.ne_of_lt (Nat.lt_succ_of_lt ltl)
        have out1 : s.heap.objs.size ∉ [(s.heap.push { cls := .type "set", dict := none, data := .set #[] 0 (.fresh 0 0 (!w.params.followText "set-order")) }).objs.size, l] := by
          rw [z1]
          simp only [List.mem_cons, List.not_mem_nil, or_false, not_or]
          exact ⟨Nat.ne_of_lt (Nat.lt_succ_self _), Nat.ne_of_gt ltl⟩
        have isz : items.size = xs.length := by rw [← StrsAre.len_eq hi, Array.length_toList]
        refine tx_loop ((Walks.list hh3 _ l ne1 items).toS) s.heap.objs.size out1 xs isz (few ()) (fun i v hv => txs_at hi i v (by rw [Array.getElem?_toList]; exact hv)) (items.size - 0) 0 _ (by omega) (Nat.zero_le _) ⟨⟨_, Heap.get?_push_size _ rfl, rfl, rfl⟩, hl1.push _⟩ (txr_new (Heap.get?_push_of_some _ at0)) fun s' hm J => ?_
        obtain ⟨h', g', d', tk', os'⟩ := s'
        obtain rfl : g' = s.gens := hm.gens
        obtain rfl : d' = s.drawn := hm.drawn
        obtain rfl : os' = s.os := hm.os
        show wpAny _ _ _ _ _ _
        refine wpAny_pure (show wpAny _ _ (ret Value.none) _ _ _ from wpAny_pure ⟨rfl, h', tk', rfl, J, fun b o e => hm.heap b o ?_ (Heap.get?_push_of_some _ (Heap.get?_push_of_some _ e))⟩)
        have ltb := Heap.lt_size e
        rw [z1]
        simp only [List.mem_cons, List.not_mem_nil, or_false, not_or]
        exact ⟨Nat.ne_of_lt ltb, Nat.ne_of_lt (Nat.lt_succ_of_lt ltb)⟩
      · cases r with
        | error e => exact hr
        | ok fl => cases fl with
          | ret r =>
            obtain ⟨rfl, h', tk, rfl, J, kp⟩ := hr
            repeat (any_goals (first | wp_step | assumption))
            exact h _ _ J kp
          | _ => exact hr.elim
    | _ => exact hr.elim
/-- set(xs), xs a tuple of texts -/
theorem tx_set_tuple {l : Addr} {items : Array Value} {xs : List Str} {Q : Value → Shared → Prop} (hh : A.handled = none) (hl : s.heap.IsTuple l items) (hi : StrsAre items.toList xs) (few : Unit → xs.length + 1 < scanBound)
    (h : ∀ (h' : Heap) (tk : Nat), TxR w h' s.heap.objs.size (dedupS xs) → (∀ b o, s.heap.get? b = some o → h'.get? b = some o) → Q (.ref s.heap.objs.size) { s with heap := h', toks := tk }) :
    wpAny (model Pg w) A (call (.type "set") [.ref l]) Q E s := by
  obtain ⟨mc, mt, hmro⟩ := PySem.F.called_set.mro
  have q1 := PySem.F.called_set.made
  have q2 := PySem.F.called_set.sub
  refine wpAny_call (codeAny_of_tree ?_)
  show wpAny _ _ (callAny (.type "set") _) _ _ _
  refine wpAny_pure ⟨Code.quiet_builtin _ (by decide +kernel), codeAny_builtin PySem.F.entry_type_call ?_⟩
  rw [Around.under_plain (weight_type_call_type "set" [.ref l] []) rfl]
  have q3 := PySem.F.called_set.notType
  have q4 := PySem.F.called_set.canCreate
  have q5 := PySem.F.typeCall_set_1 (.ref l)
  repeat (any_goals (first | wp_step | assumption))
  refine codeAny_mono (code_set_led1 (.ref l) (E := E) (Q₁ := fun obj z => obj = .ref s.heap.objs.size ∧ z = { s with heap := s.heap.push { cls := .type "set", dict := none, data := .set #[] 0 (.fresh 0 0 (!w.params.followText "set-order")) } }) ⟨rfl, rfl⟩) fun r z hr => ?_
  cases r with
  | error e => exact hr
  | ok fl => cases fl with
    | ret obj =>
      obtain ⟨rfl, rfl⟩ := hr
      have at0 : (s.heap.push { cls := .type "set", dict := none, data := .set #[] 0 (.fresh 0 0 (!w.params.followText "set-order")) }).get? s.heap.objs.size = some { cls := .type "set", dict := none, data := .set #[] 0 (.fresh 0 0 (!w.params.followText "set-order")) } := Heap.get?_push_size _ rfl
      have ty0 : Shared.TypeIs { s with heap := s.heap.push { cls := .type "set", dict := none, data := .set #[] 0 (.fresh 0 0 (!w.params.followText "set-order")) } } (.ref s.heap.objs.size) "set" := ⟨_, at0, rfl⟩
      have q6 := PySem.F.called_set.init.lookup
      have q7 := PySem.F.called_set.init.bind (.ref s.heap.objs.size)
      repeat (any_goals (first | wp_step | assumption))
      refine codeAny_mono (codeAny_call_builtin (R := wants (fun r z => r = .none ∧ ∃ h' tk, z = { s with heap := h', toks := tk } ∧ TxR w h' s.heap.objs.size (dedupS xs) ∧ (∀ b o, s.heap.get? b = some o → h'.get? b = some o)) E) PySem.F.called_set.init.plain PySem.F.entry_set_init (check_set_init_1 ty0 ?_)) fun r z hr => ?_
      · clear h q1 q2 q3 q4 q5 q6 q7 hmro
        obtain ⟨⟨oc, od, oe, os⟩, hol, hcl, nl, hdl⟩ := hl
        simp only at hcl hdl
        subst hcl
        subst hdl
        have hol1 : (s.heap.push { cls := .type "set", dict := none, data := .set #[] 0 (.fresh 0 0 (!w.params.followText "set-order")) }).get? l = some { cls := .type "tuple", dict := od, data := .seq items nl, slots := os } := Heap.get?_push_of_some _ hol
        have q8 := PySem.F.sub_tuple_set
        have q9 := PySem.F.sub_tuple_frozenset
        have qa : (Value.type "tuple" == Value.type "dict") = false := by decide
        have hl1 : (s.heap.push { cls := .type "set", dict := none, data := .set #[] 0 (.fresh 0 0 (!w.params.followText "set-order")) }).IsTuple l items := ⟨_, hol1, rfl, nl, rfl⟩
        unfold Builtin.«set.__init__» noKeywords Builtin.Frozenset.updateFrom
        generalize hPI : pyIter = PI
        wp_walk
        subst hPI
        refine wpAny_pyIter_tuple hl1 (wpAny_bind (wpAny_runValue ?_))
        have ltl : l < s.heap.objs.size := Heap.lt_size hol
        have hh3 : A.in1.in1.in1.handled = none := by simp [hh]
        have z1 : (s.heap.push { cls := .type "set", dict := none, data := .set #[] 0 (.fresh 0 0 (!w.params.followText "set-order")) }).objs.size = s.heap.objs.size + 1 := Heap.size_push ..
        have ne1 : l ≠ (s.heap.push { cls := .type "set", dict := none, data := .set #[] 0 (.fresh 0 0 (!w.params.followText "set-order")) }).objs.size := by rw [z1]; exact Nat.ne_of_lt (Nat.lt_succ_of_lt ltl)
        have out1 : s.heap.objs.size ∉ [(s.heap.push { cls := .type "set", dict := none, data := .set #[] 0 (.fresh 0 0 (!w.params.followText "set-order")) }).objs.size, l] := by
          rw [z1]
          simp only [List.mem_cons, List.not_mem_nil, or_false, not_or]
          exact ⟨Nat.ne_of_lt (Nat.lt_succ_self _), Nat.ne_of_gt ltl⟩
        have isz : items.size = xs.length := by rw [← StrsAre.len_eq hi, Array.length_toList]
        refine tx_loop ((Walks.tuple hh3 _ l ne1 items).toS) s.heap.objs.size out1 xs isz (few ()) (fun i v hv => txs_at hi i v (by rw [Array.getElem?_toList]; exact hv)) (items.size - 0) 0 _ (by omega) (Nat.zero_le _) ⟨⟨_, Heap.get?_push_size _ rfl, rfl, rfl⟩, hl1.push _⟩ (txr_new (Heap.get?_push_of_some _ at0)) fun s' hm J => ?_
        obtain ⟨h', g', d', tk', os'⟩ := s'
        obtain rfl : g' = s.gens := hm.gens
        obtain rfl : d' = s.drawn := hm.drawn
        obtain rfl : os' = s.os := hm.os
        show wpAny _ _ _ _ _ _
        refine wpAny_pure (show wpAny _ _ (ret Value.none) _ _ _ from wpAny_pure ⟨rfl, h', tk', rfl, J, fun b o e => hm.heap b o ?_ (Heap.get?_push_of_some _ (Heap.get?_push_of_some _ e))⟩)
        have ltb := Heap.lt_size e
        rw [z1]
        simp only [List.mem_cons, List.not_mem_nil, or_false, not_or]
        exact ⟨Nat.ne_of_lt ltb, Nat.ne_of_lt (Nat.lt_succ_of_lt ltb)⟩
      · cases r with
        | error e => exact hr
        | ok fl => cases fl with
          | ret r =>
            obtain ⟨rfl, h', tk, rfl, J, kp⟩ := hr
            repeat (any_goals (first | wp_step | assumption))
            exact h _ _ J kp
          | _ => exact hr.elim
    | _ => exact hr.elim
end
end K19

/-! ## K19At -/
set_option Elab.async false
set_option linter.all false
set_option maxRecDepth 100000
set_option maxHeartbeats 4000000
namespace K19
open PySem PySem.Spec PyProof.Rows L2 Evl
/-! ### len(set(xs)) -/
/-- len(set(xs)), xs a tuple of distinct texts -/
def tLenSetN (K : PySem.W.Frag) (ta : TE) : TE := fun σ H Q => ta σ H fun x H1 => ∃ (l : Addr) (xs : List Str), x = .ref l ∧ SqT K H1 l (xs.map V.str) ∧ xs.Nodup ∧ xs.length ≤ 60 ∧ Q (.int xs.length) H1
theorem pe_lenSetN {X : Cx} {a : Expr} {ta : TE} {p p2 q pos : Pos} (hc : X.calm = true) (hg : Gl X "len") (hm : X.mg "len" = none) (hg2 : Gl X "set") (hm2 : X.mg "set" = none) (ha : PE X a ta)
    (na : starEach [a] X.env = [(false, eval a X.env)] := by rfl) : PE X (.Call (.Name "len" p) [.Call (.Name "set" p2) [a] [] q] [] pos) (tLenSetN X.K ta) := by
  refine ⟨fun pins s σ H Q I h => Call_ (ld_blt I hg hm bt_len (PyProof.Rows.callWith_builtin1 (PyProof.Rows.args_cons (Call_ (ld_blt I hg2 hm2 bt_set ?_)) rfl) rfl rfl))⟩
  refine PyProof.Rows.callWith_type1 (PyProof.Rows.args_cons (thn (ha.run pins s σ H _ I h) fun v s1 ⟨x, H1, I1, r1, q1⟩ => PyProof.Rows.args_nil ?_) na) na rfl
  obtain ⟨l, xs, rfl, hq, nd, h60, q1⟩ := q1
  cases r1
  obtain ⟨its, r, pl, hz⟩ := I1.tuple hq
  refine tx_set_tuple (I1.ok.hd hc) pl (by simpa using strsAre_of r) (fun _ => by unfold scanBound; omega) fun h' tk J kp => PyProof.Rows.args_nil ?_
  rw [dedupS_nodup nd] at J
  obtain ⟨o, es, ep, t, ho, J⟩ := J
  have I2 : Inv X pins σ H1 { s1 with heap := h', toks := tk } := I1.kept kp
  refine call_len_set ho J.ex J.dat J.fit (by rw [J.size]; omega) ⟨.int xs.length, H1, I2.tok _, ⟨_, by rw [J.size]⟩, q1⟩
end K19

/-! ## K19B -/
set_option Elab.async false
set_option linter.all false
set_option maxRecDepth 100000
set_option maxHeartbeats 4000000
namespace K19
open PySem PySem.Spec PyProof.Rows L2 Evl
/-! ### the grammar's data -/
inductive Kd where
  | non | word | int (lo hi : Int) | choice (ws : List Str)
abbrev Opt := Str × Str × Kd
abbrev Clause := Str × Str × Str
abbrev Gram := List Opt × (Int × Int) × List Clause
abbrev Lit := Str × Bool
abbrev rLit (K : PySem.W.Frag) : DR Lit := rT2 K rStr rBl
abbrev rCl (K : PySem.W.Frag) : DR Clause := rT3 K rStr rStr rStr
def rKd (K : PySem.W.Frag) : DR Kd := fun H v k => match k with
  | .non => v = .non
  | .word => ∃ p, v = .ref p ∧ SqT K H p [.str "word"]
  | .int lo hi => ∃ p, v = .ref p ∧ SqT K H p [.str "int", .int lo, .int hi]
  | .choice ws => ∃ p q, v = .ref p ∧ SqT K H p [.str "choice", q] ∧ rTpl K rStr H q ws
theorem mKd {K : PySem.W.Frag} : Mono (rKd K) := fun H H' v k e h => by
  cases k with
  | non => exact h
  | word => obtain ⟨p, h1, h2⟩ := h; exact ⟨p, h1, ex_t e h2⟩
  | int lo hi => obtain ⟨p, h1, h2⟩ := h; exact ⟨p, h1, ex_t e h2⟩
  | choice ws => obtain ⟨p, q, h1, h2, h3⟩ := h; exact ⟨p, q, h1, ex_t e h2, mTpl mStr _ _ _ _ e h3⟩
abbrev rOption (K : PySem.W.Frag) : DR Opt := rT3 K rStr rStr (rKd K)
abbrev rGram (K : PySem.W.Frag) : DR Gram := rT3 K (rTpl K (rOption K)) (rT2 K rInt rInt) (rTpl K (rCl K))
theorem mLit {K : PySem.W.Frag} : Mono (rLit K) := mT2 mStr mBl
theorem mCl {K : PySem.W.Frag} : Mono (rCl K) := mT3 mStr mStr mStr
theorem mOption {K : PySem.W.Frag} : Mono (rOption K) := mT3 mStr mStr mKd
theorem mGram {K : PySem.W.Frag} : Mono (rGram K) := mT3 (mTpl mOption) (mT2 mInt mInt) (mTpl mCl)
theorem bLit {K : PySem.W.Frag} : Rob (rLit K) := bT2 bStr bBl
theorem bCl {K : PySem.W.Frag} : Rob (rCl K) := bT3 bStr bStr bStr
def KdOk : Kd → Prop
  | .non => True
  | .word => True
  | .int lo hi => -9999 ≤ lo ∧ lo ≤ hi ∧ hi ≤ 9999
  | .choice ws => 1 ≤ ws.length ∧ ws.length ≤ 8 ∧ (∀ z ∈ ws, WordOk z) ∧ ws.Nodup
def OptOk (o : Opt) : Prop := NameOk o.1 ∧ ShortOk o.2.1 ∧ KdOk o.2.2
def words3 : List Str := ["needs", "excludes", "either"]
def names (g : Gram) : List Str := g.1.map (·.1)
def shortsOf (os : List Opt) : List Str := (os.map (fun o => o.2.1)).filter (fun z : Str => !decide (z = ""))
def shorts (g : Gram) : List Str := shortsOf g.1
def ClOk (ns : List Str) (c : Clause) : Prop := c.1 ∈ words3 ∧ c.2.1 ∈ ns ∧ c.2.2 ∈ ns
structure Good (g : Gram) : Prop where
  n1 : 1 ≤ g.1.length
  n2 : g.1.length ≤ 6
  opts : ∀ o ∈ g.1, OptOk o
  names : (names g).Nodup
  shorts : (shorts g).Nodup
  lo0 : 0 ≤ g.2.1.1
  lohi : g.2.1.1 ≤ g.2.1.2
  hi9 : g.2.1.2 ≤ 9
  cls : ∀ c ∈ g.2.2, ClOk (K19.names g) c
  c6 : g.2.2.length ≤ 6
/-- a tuple is a tuple -/
theorem tyT {K : PySem.W.Frag} {H : Hp} {p : Addr} {xs : List V} (h : SqT K H p xs) : TyX K H (.ref p) (.type "tuple") := by
  rcases h with (h | ⟨o, h⟩) | ⟨o, its, n, h1, h2, _⟩
  · exact .base (.tup h)
  · exact .fTuple h
  · exact .kTuple h1 h2
theorem dpStrs {K : PySem.W.Frag} {H : Hp} : ∀ xs : List Str, DpAll K H (xs.map V.str) (xs.map PyData.str)
  | [] => .nil
  | x :: r => .cons (.str x) (dpStrs r)
theorem strOk_of {z : Str} {l : List Nat} (h : ∀ c ∈ z.cps.toList, c ∈ l) (hl : l.all (· < 0x110000) = true) : PyData.strOk z = true := by
  unfold PyData.strOk
  rw [← Array.all_toList, List.all_eq_true]
  exact fun c hc => List.all_eq_true.mp hl c (h c hc)
theorem strOk_word {z : Str} (h : WordOk z) : PyData.strOk z = true := strOk_of h.2.2 (by decide +kernel)
theorem strOk_name {z : Str} (h : NameOk z) : PyData.strOk z = true := strOk_of h.2.2.2.2 (by decide +kernel)
theorem canLay_strs : ∀ {xs : List Str}, (∀ z ∈ xs, PyData.strOk z = true) → PyData.canLayAll0 (xs.map PyData.str) = true
  | [], _ => rfl
  | x :: r, hx => by
    have h := canLay_strs (xs := r) fun z hz => hx z (List.mem_cons_of_mem _ hz)
    simp only [List.map_cons, PyData.canLayAll0, PyData.canLay0, h, hx x (List.mem_cons_self ..), Bool.and_self]
theorem depth_strs : ∀ xs : List Str, PyData.depthAll (xs.map PyData.str) = 0
  | [] => rfl
  | x :: r => by
    have h := depth_strs r
    simp only [List.map_cons, PyData.depthAll, PyData.depth, h]
    rfl
theorem shaped_int (lo hi : Int) : SeqAt.shaped (.tuple [.str "int", .int lo, .int hi]) = true := by
  simp only [SeqAt.shaped, PyData.canLay0, PyData.canLayAll0, PyData.depth, PyData.depthAll, show PyData.strOk ("int" : Str) = true from by decide +kernel]
  rfl
theorem shaped_choice {ws : List Str} (h : ∀ z ∈ ws, WordOk z) : SeqAt.shaped (.tuple [.str "choice", .tuple (ws.map PyData.str)]) = true := by
  simp only [SeqAt.shaped, PyData.canLay0, PyData.canLayAll0, PyData.depth, PyData.depthAll, show PyData.strOk ("choice" : Str) = true from by decide +kernel, canLay_strs fun z hz => strOk_word (h z hz), depth_strs]
  decide
/-! ### is_kind -/
def spIsKind (K : PySem.W.Frag) : Sp := fun vs H Q _ => ∃ v k, vs = [v] ∧ rKd K H v k ∧ KdOk k ∧ ∀ H', Ex H H' → Q (.bl true) H'
theorem sc_is_kind : FnScope ["value", "low", "high", "words", "word"] p_is_kind (defScope s_is_kind) := ⟨rfl, rfl, rfl, by decide +kernel, rfl, by decide +kernel, by decide +kernel⟩
section
variable {P : Program} {w : World} {K : PySem.W.Frag} {mg : Str → Option Value} {base : Heap}
theorem ok_is_kind (T : Txt K mg) : Cal P w K mg base CX0 2 "is_kind" (spIsKind K) := by
  refine cal0 (N := ["value", "low", "high", "words", "word"]) T.D_is_kind T.g_is_kind sc_is_kind (fun vs H Q E h => ?_) fun cdv A outer s H vs Q E hr h => ?_
  · obtain ⟨_, _, rfl, _⟩ := h; rfl
  · obtain ⟨v, kd, rfl, hv, ok, k⟩ := h
    refine ⟨_, pss_cons (ps_if (PW.pt (pw_or (pt_cmpR op_isN (pv 0) pe_non (nomark _)) (pw_or1 (pt_cmpR (op_eqD hr.units) (pv 0) (pe_tup (pa_cons pe_str pa_nil)) (nomark _))))) (pss_one (ps_ret pe_bl)) pss_nil)
      (pss_cons (ps_if (PW.pt (pw_or (pt_not (pt_val (pe_isi T.f_isinstance T.f_tuple bt_tuple (pv 0)))) (pw_or1 (pt_cmpR op_eq (pe_callB call_len_seq rfl T.f_len bt_len (pa_cons (pv 0) pa_nil)) pe_int (nomark _))))) pss_never pss_nil)
      (pss_cons (ps_if (PW.pt (pw_and (pt_cmpR op_eq (pe_ix ix_tup (pv 0) pe_int (fun _ _ => rfl)) pe_str (nomark _)) (pw_and1 (pt_cmpR op_eq (pe_callB call_len_seq rfl T.f_len bt_len (pa_cons (pv 0) pa_nil)) pe_int (nomark _)))))
        (pss_cons (ps_asg (pe_slice sl_tup (pv 0) (po_some pe_int) po_none) (pg_tup rfl (pgs_cons (pg_name (i := 1) sc_is_kind.nd rfl (Or.inl rfl)) (pgs_cons (pg_name (i := 2) sc_is_kind.nd rfl (Or.inl rfl)) pgs_nil))))
          (pss_one (ps_ret (pe_and (pe_c (ok_is_integer T) hr (by decide) rfl pass0 (pa_cons (pv 1) (pa_cons (pe_un un_neg (pe_gi T.i_MAX_INTEGER)) (pa_cons (pe_gi T.i_MAX_INTEGER) pa_nil)))) (pe_one (pe_c (ok_is_integer T) hr (by decide) rfl pass0 (pa_cons (pv 2) (pa_cons (pv 1) (pa_cons (pe_gi T.i_MAX_INTEGER) pa_nil)))))))))
        pss_nil)
      (pss_cons (ps_if (PW.pt (pw_and (pt_cmpR op_eq (pe_ix ix_tup (pv 0) pe_int (fun _ _ => rfl)) pe_str (nomark _)) (pw_and (pt_cmpR op_eq (pe_callB call_len_seq rfl T.f_len bt_len (pa_cons (pv 0) pa_nil)) pe_int (nomark _)) (pw_and1 (pt_val (pe_isi T.f_isinstance T.f_tuple bt_tuple (pe_ix ix_tup (pv 0) pe_int (fun _ _ => rfl))))))))
        (pss_cons (ps_set (i := 3) sc_is_kind.nd rfl (Or.inl rfl) (pe_ix ix_tup (pv 0) pe_int (fun _ _ => rfl)))
          (pss_one (ps_ret (pe_and (pe_chain op_le op_le pe_int (pe_callB call_len_seq rfl T.f_len bt_len (pa_cons (pv 3) pa_nil)) (pe_gi T.i_MAX_CHOICES))
            (pe_and (pe_callB (cr_all rfl) rfl T.f_all bt_all (pa_cons (pe_lc (own := [("word", 4)]) (g := gName 4) (tt := tYes) rfl sc_is_kind.nd (pi_tup (pv 3)) (blkOk_by (N := ["value", "low", "high", "words", "word"]) (sc := defScope s_is_kind) (by decide +kernel)) (fun _ _ _ _ _ => pg_name (i := 4) sc_is_kind.nd rfl (Or.inl rfl)) (fun _ _ _ _ _ => pts_nil)
              (fun _ _ _ _ _ => pe_c (ok_is_choice_word T) hr (by decide) rfl pass0 (pa_cons (pv 4) pa_nil))) pa_nil))
            (pe_one (pe_cmpR op_eq (pe_lenSetN rfl rfl T.f_len rfl T.f_set (pv 3)) (pe_callB call_len_seq rfl T.f_len bt_len (pa_cons (pv 3) pa_nil)) (nomark _))))))))
        pss_nil)
      pss_never))), ?_⟩
    have word1 : ∀ (H1 : Hp) (q : Addr), H1 q = some (.tup [.str "word"]) → Dp K H1 (.ref q) (.tuple [.str "word"]) := fun H1 q hq => .tup (st_of hq) (.cons (.str _) .nil)
    cases kd with
    | non =>
      subst hv
      exact ⟨_, rfl, rfl, true, blT rfl, iteT (iteT (k H (Ex.refl H)))⟩
    | word =>
      obtain ⟨a, rfl, ha⟩ := hv
      refine ⟨_, rfl, rfl, false, blF (by simp), iteF ⟨_, rfl, by decide, fun p hp => ?_⟩⟩
      have e1 : Ex H (upd H p (.tup [.str "word"])) := Ex.new hp
      exact ⟨.tuple [.str "word"], .tuple [.str "word"], .tup (ex_t e1 ha) (.cons (.str _) .nil), word1 _ _ upd_same, by decide +kernel, by decide +kernel, true, rfl, iteT (k _ e1)⟩
    | int lo hi =>
      obtain ⟨a, rfl, ha⟩ := hv
      obtain ⟨k1, k2, k3⟩ := ok
      refine ⟨_, rfl, rfl, false, blF (by simp), iteF ⟨_, rfl, by decide, fun p hp => ?_⟩⟩
      have e1 : Ex H (upd H p (.tup [.str "word"])) := Ex.new hp
      have ha1 := ex_t e1 ha
      refine ⟨.tuple [.str "int", .int lo, .int hi], .tuple [.str "word"], .tup ha1 (.cons (.str _) (.cons (.int _) (.cons (.int _) .nil))), word1 _ _ upd_same, shaped_int lo hi, by decide +kernel, false, by simp [PyData.eqv, PyData.eqvAll], iteF ?_⟩
      refine ⟨_, rfl, _, _, _, _, rfl, tyT ha1, (by decide +kernel : kitB "tuple" "tuple" = some true), true, rfl, iteF ?_⟩
      refine ⟨_, rfl, _, _, rfl, .inr ha1, rfl, false, rfl, iteF ?_⟩
      refine ⟨_, rfl, _, _, _, _, rfl, rfl, ha1, at0 rfl, rfl, true, rfl, iteT ⟨_, rfl, _, _, rfl, .inr ha1, rfl, true, rfl, iteT ?_⟩⟩
      refine ⟨_, rfl, _, rfl, _, _, rfl, ha1, fun z => absurd z.1 (by show ¬ (1 : Nat) = 0; decide), fun q hq => ?_⟩
      have e2 := e1.trans (Ex.new (o := .tup (cutV [.str "int", .int lo, .int hi] (some 1) none)) hq)
      refine ⟨_, _, rfl, st_of upd_same, rfl, _, _, rfl, _, _, rfl, rfl, ?_⟩
      refine ⟨_, rfl, _, rfl, lo, -9999, 9999, rfl, k1, by omega, true, rfl, iteT ?_⟩
      exact ⟨_, rfl, _, rfl, hi, lo, 9999, rfl, k2, k3, k _ e2⟩
    | choice ws =>
      obtain ⟨a, b, rfl, ha, c, ys, rfl, hb, hl⟩ := hv
      obtain ⟨k1, k2, k3, k4⟩ := ok
      have ey := lr_strs hl
      subst ey
      refine ⟨_, rfl, rfl, false, blF (by simp), iteF ⟨_, rfl, by decide, fun p hp => ?_⟩⟩
      have e1 : Ex H (upd H p (.tup [.str "word"])) := Ex.new hp
      have ha1 := ex_t e1 ha
      have hb1 := ex_t e1 hb
      refine ⟨.tuple [.str "choice", .tuple (ws.map PyData.str)], .tuple [.str "word"], .tup ha1 (.cons (.str _) (.cons (.tup hb1 (dpStrs ws)) .nil)), word1 _ _ upd_same, shaped_choice k3, by decide +kernel, false, by simp [PyData.eqv, PyData.eqvAll], iteF ?_⟩
      refine ⟨_, rfl, _, _, _, _, rfl, tyT ha1, (by decide +kernel : kitB "tuple" "tuple" = some true), true, rfl, iteF ?_⟩
      refine ⟨_, rfl, _, _, rfl, .inr ha1, rfl, false, rfl, iteF ?_⟩
      refine ⟨_, rfl, _, _, _, _, rfl, rfl, ha1, at0 rfl, rfl, false, by decide +kernel, iteF (iteF ?_)⟩
      refine ⟨_, rfl, _, _, _, _, rfl, rfl, ha1, at0 rfl, rfl, true, rfl, iteT ⟨_, rfl, _, _, rfl, .inr ha1, rfl, true, rfl, iteT ?_⟩⟩
      refine ⟨_, rfl, _, _, _, _, rfl, rfl, ha1, atI_nat (j := 1) rfl, _, _, _, _, rfl, tyT hb1, (by decide +kernel : kitB "tuple" "tuple" = some true), true, rfl, iteT ?_⟩
      refine ⟨_, rfl, _, _, _, _, rfl, rfl, ha1, atI_nat (j := 1) rfl, ?_⟩
      refine ⟨_, rfl, _, _, rfl, .inr hb1, _, _, rfl, rfl, true, blT (by simp; omega), iteT ⟨_, _, rfl, rfl, true, blT (by simp; omega), iteT ?_⟩⟩
      refine evr_go (R := rBl) (evr_all (evn_lcT1 (R := rStr) (S := rBl) (as := ws) (fun _ => true) (evr_var (mTpl mStr) rfl ⟨_, _, rfl, hb1, ?_⟩) (by omega) mStr mBl (fun _ => rfl) fun x z H1 D l hz e hD0 hD hx => evr_at bBl hD fun H2 e2 Q q => ?_)) fun v H2 e2 hv => ?_
      · exact hl
      · subst hx
        exact ⟨_, rfl, z, rfl, k3 z hz, fun H3 e3 => q _ H3 e3 rfl⟩
      · refine ⟨true, by rw [show v = _ from hv, all_true (p := fun _ => true) fun _ _ => rfl], iteT ?_⟩
        refine ⟨_, rfl, _, _, rfl, ex_t e2 hb1, k4, by omega, _, rfl, _, _, rfl, .inr (ex_t e2 hb1), rfl, ?_⟩
        exact bl_t (by simp) (k H2 (e1.trans e2))
end
end K19

/-! ## K19Ca -/
set_option Elab.async false
set_option linter.all false
set_option maxRecDepth 100000
set_option maxHeartbeats 4000000
/-! enumerate(tuple) (the steps of HandS.Iter's enumerate(list), turned to a tuple) -/
namespace PySem
open Sem (wp)
set_option maxHeartbeats 1000000 in
theorem k19_meets_enum {v : Value} {o : Obj} {H : Heap → Prop} (B : Begins v o H) :
    Meets (Builtin.«enumerate.__new__» ⟨[.type "enumerate", v], []⟩) (fun _ R s => H s.heap ∧
      R (.ok (.ret (.ref (s.heap.push o).objs.size))) { s with heap := (s.heap.push o).push { cls := .type "enumerate", data := .fields #[.none, .bool false, .ref s.heap.objs.size, rawInt 0, .none, .none] } }) :=
  .of_wp fun prog w A R s h => by
    obtain ⟨hp, g, d, tk, os⟩ := s; obtain ⟨h1, h⟩ := h
    have hsub := sub_enumerate
    have q1 : ∀ {A' : Around} {E : Value → Shared → Prop} {Q : Value → Shared → Prop}, Q (.ref hp.objs.size) ⟨hp.push o, g, d, tk, os⟩ → wpAny (model prog w) A' (pyIter v) Q E ⟨hp, g, d, tk, os⟩ :=
      fun q => B.iter prog w _ _ ⟨hp, g, d, tk, os⟩ _ h1 q
    wp_walk using q1
    refine wpAny_stack_any fun st => wpAny_pure ?_
    split
    · rename_i c _ _ _ _ _
      cases (c == Value.type "enumerate")
      · wp_walk using q1
        exact ⟨_, rfl, h⟩
      · wp_walk using q1
        exact ⟨_, rfl, h⟩
    · wp_walk using q1
      exact ⟨_, rfl, h⟩
theorem k19_call_enum {prog : Program} {w : World} {A : Around} {E : Value → Shared → Prop} {s : Shared} {v : Value} {o : Obj} {H : Heap → Prop} {Q : Value → Shared → Prop} (B : Begins v o H) (h1 : H s.heap)
    (h : ∀ h', IsEnum h' (s.heap.objs.size + 1) s.heap.objs.size 0 .none → h'.get? s.heap.objs.size = some o → h'.objs.size = s.heap.objs.size + 2 →
      (∀ b o, s.heap.get? b = some o → h'.get? b = some o) → Q (.ref (s.heap.objs.size + 1)) { s with heap := h' }) :
    wpAny (model prog w) A (call (.type "enumerate") [v]) Q E s := by
  refine callType_new F.called_enumerate (by decide) (F.typeCall_enumerate_1 _) (F.newCall_enumerate_1 _) (fun obj => F.args_object_init_2 obj _) F.entry_enumerate_new
    (k19_meets_enum B) ⟨h1, ?_⟩
  have hz : (s.heap.push o).objs.size = s.heap.objs.size + 1 := Heap.size_push ..
  show _ ∧ _
  rw [hz]
  have he : IsEnum ((s.heap.push o).push { cls := .type "enumerate", data := .fields #[.none, .bool false, .ref s.heap.objs.size, rawInt 0, .none, .none] }) (s.heap.objs.size + 1) s.heap.objs.size 0 .none := by
    have := Heap.get?_push_size (s.heap.push o) (o := { cls := .type "enumerate", data := .fields #[.none, .bool false, .ref s.heap.objs.size, rawInt 0, .none, .none] }) rfl
    rw [hz] at this; exact this
  refine ⟨⟨_, he, rfl⟩, h _ he (Heap.get?_push_of_some _ (Heap.get?_push_size _ B.free)) (by rw [Heap.size_push, hz]) fun b o x => Heap.get?_push_of_some _ (Heap.get?_push_of_some _ x)⟩
theorem k19_enum_endT {prog : Program} {w : World} {A : Around} {E : Value → Shared → Prop} {s : Shared} {e it t : Addr} {i : Nat} {items : Array Value} {old : Value} {Q : Option Value → Shared → Prop} (hh : A.handled = none)
    (he : IsEnum s.heap e it i old) (hit : s.heap.IsTupleIter it t i) (ht : s.heap.IsTuple t items) (hx : items[i]? = none)
    (hQ : ∀ h', Heap.ExtBut it s.heap h' → Q none { s with heap := h' }) : wpAny (model prog w) A (pyNext (.ref e)) Q E s := by
  have hT : s.TypeIs (.ref e) "enumerate" := ⟨_, he, rfl⟩
  unfold pyNext
  refine wpAny_bind (wpAny_attempt (wpAny_callSpecial?_slot (name := Str.ofString "__next__") hT F.slot_enumerate_next
    (wpAny_call_entry F.slot_enumerate_next hT F.entry_enumerate_next ?_ (F.args_enumerate_next_1 _))))
  show wpAny _ _ (field (.ref e) 2 >>= _) _ _ _
  refine wpAny_bind (wpAny_field he rfl (x := .ref it) rfl ?_)
  refine wpAny_bind (wpAny_nextOf_tuple_end (A := A.in1) hh hit ht hx fun h' x he' hx' => ?_)
  obtain ⟨o, ho, hc⟩ := hx'
  refine wpAny_bind (wpAny_isInstance (T := "StopIteration") (b := true) ⟨o, ho, hc⟩ isSubtype_stop ?_)
  exact wpAny_pure (hQ _ he')
end PySem
namespace K19
open PySem PySem.Spec PyProof.Rows L2
def Itte (K : PySem.W.Frag) (a : Addr) : It :=
  ⟨fun i H => ∃ (xs : List V) (x : V), SqT K H a xs ∧ xs[i]? = some x, fun i H v H' => ∃ T x, v = .ref T ∧ H T = none ∧ H' = upd H T (.tup [.int (i : Nat), x]) ∧ ∀ xs, SqT K H a xs → xs[i]? = some x, fun i H => ∃ xs : List V, SqT K H a xs ∧ xs.length ≤ i⟩
theorem turn_enumT {P : Program} {w : World} {K : PySem.W.Frag} {elts : List Expr} {kk : Nat} {tpos : Pos} (a e it : Addr) :
    Turn P w K (.Tuple elts kk tpos) (Itte K a) [e, it] e (fun i h => (∃ old, IsEnum h e it ((i : Nat) : Int) old) ∧ h.IsTupleIter it a i ∧ e ≠ it) where
  mem := by simp
  obj := fun i h st b hb => by
    obtain ⟨⟨old, he⟩, ⟨o, ho, hc, hd⟩, _⟩ := st
    have e' : b = e ∨ b = it := by simpa using hb
    rcases e' with z | z
    · rw [z]; exact ⟨_, he, fun v q => nomatch q⟩
    · rw [z]; exact ⟨o, ho, fun v q => by rw [hd] at q; cases q⟩
  keep := fun i h h' st k => let ⟨⟨old, he⟩, hi, hne⟩ := st; ⟨⟨old, k e (by simp) _ he⟩, hi.at fun o q => k it (by simp) o q, hne⟩
  item := by
    intro X hP hw hK hc i pins s σ H E I hf st hg
    subst hP hw hK
    obtain ⟨⟨old, he⟩, hit, hne⟩ := st
    obtain ⟨xs, x, hq, hx⟩ := hg
    obtain ⟨its, rv, p, hz⟩ := I.tuple hq
    have p : s.heap.IsTuple a its.toArray := p
    obtain ⟨u, hu, ru⟩ := rv.get hx
    have hel : e < s.heap.objs.size := Heap.lt_size he
    have hil : it < s.heap.objs.size := by obtain ⟨_, q, _⟩ := hit; exact Heap.lt_size q
    have nae : e ≠ a := fun z => by
      obtain ⟨o, ho, _, n, hd⟩ := p
      rw [← z, he] at ho
      cases ho
      cases hd
    have nai : a ≠ it := fun z => by
      obtain ⟨o, ho, _, n, hd⟩ := p
      obtain ⟨o2, ho2, _, hd2⟩ := hit
      rw [z, ho2] at ho
      cases ho
      rw [hd2] at hd
      cases hd
    have hlt : i < its.toArray.size := by
      have := (List.getElem?_eq_some_iff.mp hu).1
      simpa using this
    refine wpAny_pyNext_enum_itemD (Draws.tuple (A := X.A.in1) (show X.A.in1.handled = none from I.ok.hd hc) it a nai its.toArray) he ⟨hit, p⟩ hlt hne (by simp; exact ⟨hne, nae⟩) fun y h' tk hy ho hit' hT hsz hk => ?_
    have eu : y = u := by
      have hy : its.toArray[i]? = some y := hy
      simp only [List.getElem?_toArray] at hy
      rw [hu] at hy
      exact (Option.some.inj hy).symm
    subst eu
    refine ⟨_, rfl, wpAny_letOwnedTupleGo_enum (s := { s with heap := h', toks := tk + 1 }) ho fun h'' he' sb => ?_⟩
    have hT2 : h''.get? s.heap.objs.size = some { cls := .type "tuple", data := .seq #[.int i tk, y] } := (sb.2 _ (Nat.ne_of_gt hel)).trans hT
    have new : ObjOk X.prog X.w (upd H s.heap.objs.size (.tup [.int (i : Nat), x])) h'' s.heap.objs.size (.tup [.int (i : Nat), x]) :=
      ⟨by show 2 ≤ sizeLine; decide, [.int i tk, y], .cons ⟨_, rfl⟩ (.cons ru .nil), ⟨_, hT2, rfl, _, rfl⟩⟩
    have I1 : Inv X pins σ (upd H s.heap.objs.size (.tup [.int (i : Nat), x])) { s with heap := h'', toks := tk + 1 } :=
      I.turnedNew (ch := [e, it]) (fun b ob hb q => (sb.2 b (fun z => hb (by simp [z]))).trans (hk b ob (fun z => hb (by simp [z])) (fun z => hb (by simp [z])) q)) hf (Nat.le_refl _) new
    refine ⟨.ref s.heap.objs.size, _, I1, rfl, ⟨_, x, rfl, I.hok.fresh (Nat.le_refl _), rfl, fun ys hy => by rw [I.tuple_inj hy hq]; exact hx⟩, ⟨⟨y, ?_⟩, hit'.1.at fun o q => (sb.2 it (Ne.symm hne)).trans q, hne⟩, fun b hb => ?_⟩
    · have e1 : ((i + 1 : Nat) : Int) = (i : Int) + 1 := by omega
      rw [e1]; exact he'
    · have hb' : b < s.heap.objs.size := by
        have e' : b = e ∨ b = it := by simpa using hb
        rcases e' with z | z
        · rw [z]; exact hel
        · rw [z]; exact hil
      rw [upd_ne (Nat.ne_of_lt hb')]
      exact (hf b hb).1
  done := by
    intro X hP hw hK hc i pins s σ H E I hf st hg
    subst hP hw hK
    obtain ⟨⟨old, he⟩, hit, hne⟩ := st
    obtain ⟨xs, hq, hx⟩ := hg
    obtain ⟨its, rv, p, hz⟩ := I.tuple hq
    have p : s.heap.IsTuple a its.toArray := p
    obtain ⟨f0, f1, f2, f3, f4, f5⟩ := hf it (by simp)
    have hl := rv.length
    exact k19_enum_endT (I.ok.hd hc) he hit p (by simp; omega) fun h' eb => ⟨rfl, I.turned (t' := s.toks) (fun b o hb q => eb b o hb q) f0 f1 f3 f4 f5⟩
  self := fun A i s Q E st h => let ⟨⟨_, he⟩, _⟩ := st; wpAny_pyIter_enum he h
def iEnumT (K : PySem.W.Frag) (ta : TA) : TI := fun σ H R => ta σ H fun vs H1 => ∃ a xs, vs = [.ref a] ∧ SqT K H1 a xs ∧ R (Itte K a) H1
theorem pi_enumT {X : Cx} {e : Expr} {ta : TA} {p pos tpos : Pos} {elts : List Expr} {kk : Nat} (hg : Gl X "enumerate") (hm : X.mg "enumerate" = none) (ha : PA X [e] ta) (hs : starEach [e] X.env = [(false, eval e X.env)] := by rfl) :
    PI X (.Tuple elts kk tpos) (.Call (.Name "enumerate" p) [e] [] pos) (iEnumT X.K ta) := by
  refine ⟨fun pins s σ H R I h => ?_⟩
  refine Call_ (ld_blt I hg hm boot_enumerate (PyProof.Rows.callWith_type1 (thn (ha.run pos pins s σ H _ I h) fun us s1 ⟨vs, H1, I1, r1, q1⟩ => ?_) hs rfl))
  obtain ⟨a, xs, ex, hq, q⟩ := q1
  subst ex
  cases r1 with
  | cons r rr =>
    cases rr
    cases r
    obtain ⟨its, rv, p', hz⟩ := I1.tuple hq
    refine k19_call_enum (begins_tuple a its.toArray) p' fun h' he hit hsz hk => wpAny_pyIter_enum he ?_
    have I2 : Inv X pins σ H1 { s1 with heap := h' } := I1.kept (t' := s1.toks) hk
    refine ⟨s1.heap.objs.size + 1, [s1.heap.objs.size + 1, s1.heap.objs.size], _, _, H1, rfl, I2, turn_enumT a (s1.heap.objs.size + 1) s1.heap.objs.size, ⟨⟨.none, he⟩, ⟨_, hit, rfl, rfl⟩, Nat.succ_ne_self _⟩, fun b hb => ?_, q⟩
    have e' : b = s1.heap.objs.size + 1 ∨ b = s1.heap.objs.size := by simpa using hb
    have hle : s1.heap.objs.size ≤ b := by
      rcases e' with z | z
      · rw [z]; exact Nat.le_add_right _ _
      · rw [z]; exact Nat.le_refl _
    exact I1.fpOk hle (I1.hok.fresh hle)
end K19

/-! ## K19C -/
set_option Elab.async false
set_option linter.all false
set_option maxRecDepth 100000
set_option maxHeartbeats 4000000
namespace K19
open PySem PySem.Spec PyProof.Rows L2 Evl
theorem pgT (K : PySem.W.Frag) {X : Cx} {es : List Expr} {k : Nat} {pos : Pos} {t : TGs} {n : Nat} (hc : X.calm = true) (h : PGs X es t)
    (hn : (assignEach es X.env).length = n := by rfl) (hst : (assignEach es X.env).findIdx? (·.1) = none := by rfl) (hK : X.K = K := by rfl) : PG X (.Tuple es k pos) (gTup K n t) := by
  subst hK
  exact pg_tup hc h hn hst
/-! ### enumerate(tuple) -/
theorem walk_enumT {K : PySem.W.Frag} {a : Addr} {xs : List V} : Walk (Itte K a) xs.length (fun H => SqT K H a xs) (YPair (fun i => some (.int (i : Nat))) (fun i => xs[i]?)) := by
  refine ⟨fun i _ hi q => ⟨xs, xs[i], q, by simp [hi]⟩, fun _ q => ⟨xs, q, Nat.le_refl _⟩, fun i H v H' _ q y => ?_⟩
  obtain ⟨T, x, h1, h2, h3, h4⟩ := y
  exact ⟨T, .int (i : Nat), x, h1, h2, h3, rfl, h4 xs q⟩
/-! ### is_option -/
def spIsOption (K : PySem.W.Frag) : Sp := fun vs H Q _ => ∃ v o, vs = [v] ∧ rOption K H v o ∧ OptOk o ∧ ∀ H', Ex H H' → Q (.bl true) H'
theorem sc_is_option : FnScope ["value", "name", "short_name", "kind"] p_is_option (defScope s_is_option) := ⟨rfl, rfl, rfl, by decide +kernel, rfl, by decide +kernel, by decide +kernel⟩
section
variable {P : Program} {w : World} {K : PySem.W.Frag} {mg : Str → Option Value} {base : Heap}
theorem ok_is_option (T : Txt K mg) : Cal P w K mg base CX0 3 "is_option" (spIsOption K) := by
  refine cal0 (N := ["value", "name", "short_name", "kind"]) T.D_is_option T.g_is_option sc_is_option (fun vs H Q E h => ?_) fun cdv A outer s H vs Q E hr h => ?_
  · obtain ⟨_, _, rfl, _⟩ := h; rfl
  · obtain ⟨v, o, rfl, ⟨p, x, y, z, rfl, hp, rfl, rfl, hz⟩, ⟨o1, o2, o3⟩, k⟩ := h
    refine ⟨_, pss_cons (ps_if (PW.pt (pw_or (pt_not (pt_val (pe_isi T.f_isinstance T.f_tuple bt_tuple (pv 0)))) (pw_or1 (pt_cmpR op_ne (pe_callB call_len_seq rfl T.f_len bt_len (pa_cons (pv 0) pa_nil)) pe_int (nomark _))))) pss_never pss_nil)
      (pss_cons (ps_asg (pv 0) (pg_tup rfl (pgs_cons (pg_name (i := 1) sc_is_option.nd rfl (Or.inl rfl)) (pgs_cons (pg_name (i := 2) sc_is_option.nd rfl (Or.inl rfl)) (pgs_cons (pg_name (i := 3) sc_is_option.nd rfl (Or.inl rfl)) pgs_nil)))))
      (pss_one (ps_ret (pe_and (pe_c (ok_is_name T) hr (by decide) rfl pass0 (pa_cons (pv 1) pa_nil)) (pe_and (pe_c (ok_is_short_name T) hr (by decide) rfl pass0 (pa_cons (pv 2) pa_nil)) (pe_one (pe_c (ok_is_kind T) hr (by decide) rfl pass0 (pa_cons (pv 3) pa_nil)))))))), ?_⟩
    refine ⟨_, rfl, _, _, _, _, rfl, tyT hp, (by decide +kernel : kitB "tuple" "tuple" = some true), true, rfl, iteF ?_⟩
    refine ⟨_, rfl, _, _, rfl, .inr hp, rfl, false, rfl, iteF ?_⟩
    refine ⟨_, rfl, _, _, rfl, hp, rfl, _, _, rfl, _, _, rfl, _, _, rfl, rfl, ?_⟩
    refine ⟨_, rfl, _, rfl, o1, fun H1 e1 => ⟨true, rfl, iteT ?_⟩⟩
    refine ⟨_, rfl, _, rfl, o2, fun H2 e2 => ⟨true, rfl, iteT ?_⟩⟩
    exact ⟨_, rfl, _, _, rfl, mKd _ _ _ _ (e1.trans e2) hz, o3, fun H3 e3 => k H3 ((e1.trans e2).trans e3)⟩
end
/-! ### check_options -/
def keysN (l : List Str) : List Key := l.map Sum.inr
theorem valV_none_of {kvs : List (Key × V)} {k : Key} (h : k ∉ kvs.map (·.1)) : valV kvs k = none := by
  cases e : valV kvs k with
  | none => rfl
  | some v => exact absurd (valV_in e) h
def spCheckOptions (K : PySem.W.Frag) : Sp := fun vs H Q _ => ∃ v os, vs = [v] ∧ rTpl K (rOption K) H v os ∧ os.length ≤ 6 ∧ 1 ≤ os.length ∧ (∀ o ∈ os, OptOk o) ∧ (os.map (fun o => o.1)).Nodup ∧ (shortsOf os).Nodup ∧ ∀ H', Ex H H' → Q .non H'
theorem sc_check_options : FnScope ["options", "names", "short_names", "index", "option"] p_check_options (defScope s_check_options) := ⟨rfl, rfl, rfl, by decide +kernel, rfl, by decide +kernel, by decide +kernel⟩
section
variable {P : Program} {w : World} {K : PySem.W.Frag} {mg : Str → Option Value} {base : Heap}
theorem ok_check_options (T : Txt K mg) : Cal P w K mg base CX0 4 "check_options" (spCheckOptions K) := by
  refine cal0 (N := ["options", "names", "short_names", "index", "option"]) T.D_check_options T.g_check_options sc_check_options (fun vs H Q E h => ?_) fun cdv A outer s H vs Q E hr h => ?_
  · obtain ⟨_, _, rfl, _⟩ := h; rfl
  · obtain ⟨v, os, rfl, ⟨a, xs, rfl, ha, hl⟩, l6, l1, hok, nd1, nd2, k⟩ := h
    refine ⟨_, pss_cons (ps_if (PW.pt (pw_or (pt_not (pt_val (pe_isi T.f_isinstance T.f_tuple bt_tuple (pv 0)))) (pw_or1 (pt_cmpR op_eq (pe_callB call_len_seq rfl T.f_len bt_len (pa_cons (pv 0) pa_nil)) pe_int (nomark _))))) pss_never pss_nil)
      (pss_cons (ps_par (i := 1) (j := 2) rfl sc_check_options.nd rfl rfl (by decide) rfl rfl (pa_cons pe_dnewK (pa_cons pe_dnewK pa_nil)) (by rfl))
      (pss_one (ps_for PassesOwn.never rfl (pi_enumT rfl T.f_enumerate (pa_cons (pv 0) pa_nil)) (pg_tup rfl (pgs_cons (pg_name (i := 3) sc_check_options.nd rfl (Or.inl rfl)) (pgs_cons (pg_name (i := 4) sc_check_options.nd rfl (Or.inl rfl)) pgs_nil)))
        (pss_cons (ps_if (PW.pt (pw_or (pt_cmpR op_eq (pv 3) (pe_gi T.i_MAX_OPTIONS) (nomark _)) (pw_or (pt_not (pt_val (pe_c (ok_is_option T) hr (by decide) rfl pass0 (pa_cons (pv 4) pa_nil)))) (pw_or (pt_cmp (pc_din (hu_of hr) (pe_ix ix_tup (pv 4) pe_int (fun _ _ => rfl)) (pv 1))) (pw_or1 (pt_cmp (pc_din (hu_of hr) (pe_ix ix_tup (pv 4) pe_int (fun _ _ => rfl)) (pv 2)))))))) pss_never pss_nil)
        (pss_cons (ps_dput (hu_of hr) (pv 1) (pe_ix ix_tup (pv 4) pe_int (fun _ _ => rfl)) pe_bl rfl)
        (pss_one (ps_if (pt_cmpR op_ne (pe_ix ix_tup (pv 4) pe_int (fun _ _ => rfl)) pe_str (nomark _)) (pss_one (ps_dput (hu_of hr) (pv 2) (pe_ix ix_tup (pv 4) pe_int (fun _ _ => rfl)) pe_bl rfl)) pss_nil))))))), ?_⟩
    have hlen := hl.length
    refine ⟨_, rfl, _, _, _, _, rfl, tyT ha, (by decide +kernel : kitB "tuple" "tuple" = some true), true, rfl, iteF ?_⟩
    refine ⟨_, rfl, _, _, rfl, .inr ha, rfl, false, blF (by simp; intro z; rw [z] at hlen; simp at hlen; omega), iteF ?_⟩
    refine fun pn hpn ps hps => ⟨_, _, rfl, _, rfl, a, xs, rfl, ex_t ((Ex.new hpn).trans (Ex.new hps)) ha, ?_⟩
    have nPS : pn ≠ ps := fun z => by rw [z, upd_same] at hps; cases hps
    have hps0 : H ps = none := by rw [upd_ne (Ne.symm nPS)] at hps; exact hps
    refine for_it (walk_enumT (K := K) (a := a) (xs := xs)) (fun (i : Nat) (σ' : L2.St) (H' : Hp) => ∃ o3 o4 kn ks, σ' = [some (.ref a), some (.ref pn), some (.ref ps), o3, o4] ∧ Ex H H' ∧ H' pn = some (.dK kn) ∧ H' ps = some (.dK ks) ∧ kn.map (·.1) = keysN ((os.take i).map (·.1)) ∧ ks.map (·.1) = keysN (shortsOf (os.take i)))
      ⟨none, none, [], [], rfl, (Ex.new hpn).trans (Ex.new hps), by rw [upd_ne nPS, upd_same], upd_same, rfl, rfl⟩ (fun i σ' H' _ ⟨_, _, _, _, _, e, _⟩ => ex_t e ha) ?_ ?_
    · rintro i x σ' H1 H2 hi ⟨o3, o4, kn, ks, rfl, e1, h1, h2, h3, h4⟩ ⟨Tp, x1, x2, rfl, hT, rfl, hx1, hx2⟩
      cases hx1
      obtain ⟨o, ho, ro⟩ := hl.getV hx2
      have hm : o ∈ os := List.mem_of_getElem? ho
      have tk : os.take (i + 1) = os.take i ++ [o] := by rw [List.take_succ, ho]; rfl
      have e2 : Ex H1 (upd H1 Tp (.tup [.int (i : Nat), x2])) := Ex.new hT
      refine ⟨_, _, rfl, st_of upd_same, rfl, _, _, rfl, _, _, rfl, rfl, ?_⟩
      refine ⟨_, rfl, rfl, false, blF (by intro z; injection z; omega), iteF ?_⟩
      have e02 := e1.trans e2
      obtain ⟨po, y1, y2, y3, rfl, hpo, rfl, rfl, hkd⟩ := mOption _ _ _ _ e02 ro
      have okO := hok o hm
      refine ⟨_, rfl, _, o, rfl, ⟨po, _, _, _, rfl, hpo, rfl, rfl, hkd⟩, okO, fun H3 e3 => ⟨true, rfl, iteF ?_⟩⟩
      have hpo3 := ex_t e3 hpo
      have g1 : H3 pn = some (.dK kn) := e3 _ _ (e2 _ _ h1)
      have g2 : H3 ps = some (.dK ks) := e3 _ _ (e2 _ _ h2)
      -- the name is new
      have ndi : (os.take (i + 1)).map (·.1) |>.Nodup := List.Nodup.sublist (List.Sublist.map _ (List.take_sublist ..)) nd1
      have nn : o.1 ∉ (os.take i).map (·.1) := by
        rw [tk, List.map_append, List.nodup_append] at ndi
        intro hmem
        exact ndi.2.2 _ hmem _ (by simp) rfl
      have v1 : valV kn (Sum.inr o.1) = none := valV_none_of (by rw [h3]; unfold keysN; intro hm; obtain ⟨z, hz1, hz2⟩ := List.mem_map.mp hm; injection hz2 with hz2; exact nn (hz2 ▸ hz1))
      have nds : (shortsOf (os.take (i + 1))).Nodup := List.Nodup.sublist ((List.Sublist.map _ (List.take_sublist ..)).filter _) nd2
      have nn2 : o.2.1 ∉ shortsOf (os.take i) := by
        intro hmem
        have hne : o.2.1 ≠ "" := by simpa using (List.mem_filter.mp hmem).2
        rw [tk] at nds
        unfold shortsOf at nds hmem
        rw [List.map_append, List.filter_append, List.nodup_append] at nds
        exact nds.2.2 _ hmem _ (by simp [hne]) rfl
      have v2 : valV ks (Sum.inr o.2.1) = none := valV_none_of (by rw [h4]; unfold keysN; intro hm; obtain ⟨z, hz1, hz2⟩ := List.mem_map.mp hm; injection hz2 with hz2; exact nn2 (hz2 ▸ hz1))
      have d1 : DGet H3 pn (.str o.1) none := by have z := DGet.k (k := Sum.inr o.1) g1; rw [v1] at z; exact z
      have d2 : DGet H3 ps (.str o.2.1) none := by have z := DGet.k (k := Sum.inr o.2.1) g2; rw [v2] at z; exact z
      refine ⟨_, rfl, _, _, _, _, rfl, rfl, hpo3, at0 rfl, _, rfl, pn, none, rfl, d1, false, rfl, iteF ?_⟩
      refine ⟨_, rfl, _, _, _, _, rfl, rfl, hpo3, atI_nat (j := 1) rfl, _, rfl, ps, none, rfl, d2, false, rfl, iteF ?_⟩
      have l1 : kn.length ≤ 6 := by have z := congrArg List.length h3; simp [keysN] at z; omega
      have l2 : ks.length ≤ 6 := by
        have z := congrArg List.length h4
        have z2 := List.length_filter_le (fun z : Str => !decide (z = "")) ((os.take i).map (fun o => o.2.1))
        unfold shortsOf keysN at z
        rw [List.length_map, List.length_map] at z
        rw [List.length_map, List.length_take] at z2
        omega
      refine ⟨_, rfl, _, rfl, _, _, _, _, rfl, rfl, hpo3, at0 rfl, pn, _, rfl, DPut.k (k := Sum.inr o.1) g1 (Nat.lt_of_le_of_lt l1 (by decide)), ?_⟩
      rw [putK_new _ v1]
      have e13 : Ex H (upd H3 pn (.dK (kn ++ [(Sum.inr o.1, V.bl true)]))) := Ex.mut (e02.trans e3) hpn
      have hpo4 : SqT K (upd H3 pn (.dK (kn ++ [(Sum.inr o.1, V.bl true)]))) po _ := sqt_updK g1 hpo3
      have g3 : (upd H3 pn (.dK (kn ++ [(Sum.inr o.1, V.bl true)]))) pn = some (.dK (kn ++ [(Sum.inr o.1, V.bl true)])) := upd_same
      have g4 : (upd H3 pn (.dK (kn ++ [(Sum.inr o.1, V.bl true)]))) ps = some (.dK ks) := by rw [upd_ne (Ne.symm nPS)]; exact g2
      have k1 : (kn ++ [((Sum.inr o.1 : Key), V.bl true)]).map (fun q : Key × V => q.1) = keysN ((os.take (i + 1)).map (·.1)) := by
        rw [tk, List.map_append, h3]
        simp [keysN]
      by_cases hs : o.2.1 = ""
      · refine ⟨_, rfl, _, _, _, _, rfl, rfl, hpo4, atI_nat (j := 1) rfl, rfl, false, by rw [hs]; rfl, iteF ?_⟩
        refine ⟨_, _, _, ks, rfl, e13, g3, g4, k1, ?_⟩
        rw [h4, tk]
        unfold shortsOf
        rw [List.map_append, List.filter_append]
        simp [hs]
      · refine ⟨_, rfl, _, _, _, _, rfl, rfl, hpo4, atI_nat (j := 1) rfl, rfl, true, by rw [decide_eq_false (fun z => hs (by injection z))]; rfl, iteT ?_⟩
        refine ⟨_, rfl, _, rfl, _, _, _, _, rfl, rfl, hpo4, atI_nat (j := 1) rfl, ps, _, rfl, DPut.k (k := Sum.inr o.2.1) g4 (Nat.lt_of_le_of_lt l2 (by decide)), ?_⟩
        rw [putK_new _ v2]
        refine ⟨_, _, _, _, rfl, Ex.mut e13 hps0, ?_, upd_same, k1, ?_⟩
        · rw [upd_ne nPS]; exact g3
        · rw [tk]
          unfold shortsOf at h4 ⊢
          rw [List.map_append, h4, List.map_append, List.filter_append]
          simp [hs, keysN]
    · rintro σ' H1 ⟨o3, o4, kn, ks, rfl, e1, _⟩
      exact k H1 e1
end
end K19

/-! ## K19D -/
set_option Elab.async false
set_option linter.all false
set_option maxRecDepth 100000
set_option maxHeartbeats 4000000
namespace K19
open PySem PySem.Spec PyProof.Rows L2 Evl
/-- a new list is handed back -/
def RetN {α : Type} (R : DR α) (as : List α) (H : Hp) (Q : VK) : Prop := ∀ p H' xs, H p = none → Ex H H' → H' p = some (.lst xs) → LR R H' xs as → Q (.ref p) H'
theorem inV_strs {z : Str} : ∀ {ns : List Str}, inV (.str z) (ns.map V.str) = decide (z ∈ ns)
  | [] => rfl
  | x :: r => by
    have ih := inV_strs (z := z) (ns := r)
    unfold inV at ih ⊢
    rw [List.map_cons, List.any_cons, ih]
    by_cases e : x = z
    · subst e
      simp [eqV]
    · have e2 : ¬ z = x := fun q => e q.symm
      simp [eqV, e, e2]
theorem flat_strs (ns : List Str) : (ns.map V.str).all flatV = true := by
  rw [List.all_eq_true]
  intro v hv
  obtain ⟨z, _, rfl⟩ := List.mem_map.mp hv
  rfl
/-! ### names_of -/
def spNamesOf (K : PySem.W.Frag) : Sp := fun vs H Q _ => ∃ v g, vs = [v] ∧ rGram K H v g ∧ g.1.length ≤ 40 ∧ RetN rStr (names g) H Q
theorem sc_names_of : FnScope ["grammar", "option"] p_names_of (defScope s_names_of) := ⟨rfl, rfl, rfl, by decide +kernel, rfl, by decide +kernel, by decide +kernel⟩
/-! ### is_clause -/
def spIsClause (K : PySem.W.Frag) : Sp := fun vs H Q _ => ∃ v ns u c, vs = [v, u] ∧ rLst K rStr H v ns ∧ rCl K H u c ∧ ClOk ns c ∧ ∀ H', Ex H H' → Q (.bl true) H'
theorem sc_is_clause : FnScope ["names", "clause", "part"] p_is_clause (defScope s_is_clause) := ⟨rfl, rfl, rfl, by decide +kernel, rfl, by decide +kernel, by decide +kernel⟩
section
variable {P : Program} {w : World} {K : PySem.W.Frag} {mg : Str → Option Value} {base : Heap}
theorem ok_names_of (T : Txt K mg) : Cal P w K mg base CX0 1 "names_of" (spNamesOf K) := by
  refine cal0 (N := ["grammar", "option"]) T.D_names_of T.g_names_of sc_names_of (fun vs H Q E h => ?_) fun cdv A outer s H vs Q E hr h => ?_
  · obtain ⟨_, _, rfl, _⟩ := h; rfl
  · obtain ⟨v, g, rfl, ⟨p, x, y, z, rfl, hp, hx, hy, hz⟩, hl, k⟩ := h
    refine ⟨_, pss_one (ps_ret (pe_lc (own := [("option", 1)]) (g := gName 1) (tt := tYes) rfl sc_names_of.nd (pi_tup (pe_ix ix_tup (pv 0) pe_int (fun _ _ => rfl))) (blkOk_by (N := ["grammar", "option"]) (sc := defScope s_names_of) (by decide +kernel)) (fun _ _ _ _ _ => pg_name (i := 1) sc_names_of.nd rfl (Or.inl rfl)) (fun _ _ _ _ _ => pts_nil)
      (fun _ _ _ _ _ => pe_ix (ixT K) (pv 1) pe_int (fun _ _ => rfl)))), ?_⟩
    refine evn_go (R := rStr) (evn_lcT1 (R := rOption K) (S := rStr) (as := g.1) (fun o => o.1) (fun H1 e Q q => ?_) (by omega) mOption mStr (fun _ => rfl) fun x o H1 D l ho e hD0 hD hx => evr_at bStr hD fun H2 e2 Q q => ?_) fun p H2 xs hp e2 h2 hl => k p H2 xs hp e2 h2 hl
    · exact ⟨_, rfl, _, _, _, _, rfl, rfl, ex_t e hp, at0 rfl, q _ H1 (Ex.refl _) (mTpl mOption _ _ _ _ e hx)⟩
    · obtain ⟨po, y1, y2, y3, rfl, hpo, h1, h2, h3⟩ := hx
      exact ⟨_, rfl, _, _, _, _, rfl, rfl, ex_t e2 hpo, at0 rfl, q _ H2 (Ex.refl _) h1⟩
theorem ok_is_clause (T : Txt K mg) : Cal P w K mg base CX0 1 "is_clause" (spIsClause K) := by
  refine cal0 (N := ["names", "clause", "part"]) T.D_is_clause T.g_is_clause sc_is_clause (fun vs H Q E h => ?_) fun cdv A outer s H vs Q E hr h => ?_
  · obtain ⟨_, _, _, _, rfl, _⟩ := h; rfl
  · obtain ⟨v, ns, u, c, rfl, ⟨a, xs, rfl, ha, hl⟩, ⟨p, x, y, z, rfl, hp, rfl, rfl, rfl⟩, ⟨c1, c2, c3⟩, k⟩ := h
    have ey := lr_strs hl
    subst ey
    refine ⟨_, pss_cons (ps_if (PW.pt (pw_or (pt_not (pt_val (pe_isi T.f_isinstance T.f_tuple bt_tuple (pv 1)))) (pw_or (pt_cmpR op_ne (pe_callB call_len_seq rfl T.f_len bt_len (pa_cons (pv 1) pa_nil)) pe_int (nomark _))
        (pw_or1 (pt_not (pt_val (pe_callB (cr_all rfl) rfl T.f_all bt_all (pa_cons (pe_lc (own := [("part", 2)]) (g := gName 2) (tt := tYes) rfl sc_is_clause.nd (pi_tup (pv 1)) (blkOk_by (N := ["names", "clause", "part"]) (sc := defScope s_is_clause) (by decide +kernel)) (fun _ _ _ _ _ => pg_name (i := 2) sc_is_clause.nd rfl (Or.inl rfl)) (fun _ _ _ _ _ => pts_nil)
          (fun _ _ _ _ _ => pe_isiK K T.f_isinstance T.f_str bt_str (pv 2))) pa_nil)))))))) pss_never pss_nil)
      (pss_one (ps_ret (pe_and (pe_cmpR op_in_seq (pe_ix ix_tup (pv 1) pe_int (fun _ _ => rfl)) (pe_glob (v := .ref (He.ga K "CLAUSE_WORDS")) rfl T.g_CLAUSE_WORDS rfl) rfl) (pe_and (pe_cmpR op_in_seq (pe_ix ix_tup (pv 1) pe_int (fun _ _ => rfl)) (pv 0) rfl) (pe_one (pe_cmpR op_in_seq (pe_ix ix_tup (pv 1) pe_int (fun _ _ => rfl)) (pv 0) rfl)))))), ?_⟩
    refine ⟨_, rfl, _, _, _, _, rfl, tyT hp, (by decide +kernel : kitB "tuple" "tuple" = some true), true, rfl, iteF ?_⟩
    refine ⟨_, rfl, _, _, rfl, .inr hp, rfl, false, rfl, iteF ?_⟩
    refine evr_go (R := rBl) (evr_all (evn_lcT1 (R := rStr) (S := rBl) (as := [c.1, c.2.1, c.2.2]) (fun _ => true) (evr_var (mTpl mStr) rfl ⟨_, _, rfl, hp, .cons rfl (.cons rfl (.cons rfl .nil))⟩) (by show 3 ≤ 40000; decide) mStr mBl (fun _ => rfl) fun x o H1 D l ho e hD0 hD hx => evr_at bBl hD fun H2 e2 Q q => ?_)) fun v H2 e2 hv => ?_
    · subst hx
      exact ⟨_, rfl, _, _, _, _, rfl, .base (.str _), (by decide +kernel : kitB "str" "str" = some true), q _ H2 (Ex.refl _) rfl⟩
    · refine ⟨true, by rw [show v = _ from hv]; rfl, iteF ?_⟩
      have hp2 := ex_t e2 hp
      have ha2 := ex_l e2 ha
      have hw : SqT K H2 (He.ga K "CLAUSE_WORDS") ((["needs", "excludes", "either"] : List Str).map V.str) := He.tupB_ok T.cw H2
      refine ⟨_, rfl, _, _, _, _, rfl, rfl, hp2, at0 rfl, _, _, rfl, .inr hw, rfl, flat_strs _, true, ?_, iteT ?_⟩
      · show V.bl (inV (.str c.1) ((["needs", "excludes", "either"] : List Str).map V.str)) = V.bl true
        rw [inV_strs]
        exact blT c1
      refine ⟨_, rfl, _, _, _, _, rfl, rfl, hp2, atI_nat (j := 1) rfl, _, rfl, _, _, rfl, .inl ha2, rfl, flat_strs _, true, ?_, iteT ?_⟩
      · show V.bl (inV (.str c.2.1) (ns.map V.str)) = V.bl true
        rw [inV_strs]
        exact blT c2
      refine ⟨_, rfl, _, _, _, _, rfl, rfl, hp2, atI_nat (j := 2) rfl, _, rfl, _, _, rfl, .inl ha2, rfl, flat_strs _, ?_⟩
      show Q (V.bl (inV (.str c.2.2) (ns.map V.str))) H2
      rw [inV_strs]
      exact bl_t c3 (k H2 e2)
end
/-! ### check_grammar, option_names -/

def spCheckGrammar (K : PySem.W.Frag) : Sp := fun vs H Q _ => ∃ v g, vs = [v] ∧ rGram K H v g ∧ Good g ∧ ∀ H', Ex H H' → Q .non H'
theorem sc_check_grammar : FnScope ["grammar", "options", "positionals", "clauses", "is_pair", "names", "option", "index", "clause"] p_check_grammar (defScope s_check_grammar) := ⟨rfl, rfl, rfl, by decide +kernel, rfl, by decide +kernel, by decide +kernel⟩
def spOptionNames (K : PySem.W.Frag) : Sp := fun vs H Q _ => ∃ v g, vs = [v] ∧ rGram K H v g ∧ Good g ∧ RetN rStr (names g) H Q
theorem sc_option_names : FnScope ["grammar"] p_option_names (defScope s_option_names) := ⟨rfl, rfl, rfl, by decide +kernel, rfl, by decide +kernel, by decide +kernel⟩
section
variable {P : Program} {w : World} {K : PySem.W.Frag} {mg : Str → Option Value} {base : Heap}
theorem ok_check_grammar (T : Txt K mg) : Cal P w K mg base CX0 5 "check_grammar" (spCheckGrammar K) := by
  refine cal0 (N := ["grammar", "options", "positionals", "clauses", "is_pair", "names", "option", "index", "clause"]) T.D_check_grammar T.g_check_grammar sc_check_grammar (fun vs H Q E h => ?_) fun cdv A outer s H vs Q E hr h => ?_
  · obtain ⟨_, _, rfl, _⟩ := h; rfl
  · obtain ⟨v, g, rfl, ⟨p, x, y, z, rfl, hp, hx, ⟨pq, i1, i2, rfl, hpq, rfl, rfl⟩, ⟨pz, zs, rfl, hz, hzl⟩⟩, G, k⟩ := h
    refine ⟨_, (pss_cons (ps_if (PW.pt (pw_or (pt_not (pt_val (pe_isiK K T.f_isinstance T.f_tuple bt_tuple (pv 0)))) (pw_or1 (pt_cmpR op_ne (pe_callB (lenSq K) rfl T.f_len bt_len (pa_cons (pv 0) pa_nil)) pe_int (nomark _))))) pss_never pss_nil)
      (pss_cons (ps_asg (pv 0) (pgT K rfl (pgs_cons (pg_name (i := 1) sc_check_grammar.nd rfl (Or.inl rfl)) (pgs_cons (pg_name (i := 2) sc_check_grammar.nd rfl (Or.inl rfl)) (pgs_cons (pg_name (i := 3) sc_check_grammar.nd rfl (Or.inl rfl)) pgs_nil)))))
      (pss_cons (ps_expr (pe_c (ok_check_options (P := P) (w := w) (base := base) T) hr (by decide) rfl pass0 (pa_cons (pv 1) pa_nil)))
      (pss_cons (ps_set (i := 4) sc_check_grammar.nd rfl (Or.inl rfl) (pe_and (pe_isiK K T.f_isinstance T.f_tuple bt_tuple (pv 2)) (pe_one (pe_cmpR op_eq (pe_callB (lenSq K) rfl T.f_len bt_len (pa_cons (pv 2) pa_nil)) pe_int (nomark _)))))
      (pss_cons (ps_if (PW.pt (pw_or (pt_not (pt_val (pv 4))) (pw_or1 (pt_not (pt_val (pe_c (ok_is_integer (P := P) (w := w) (base := base) T) hr (by decide) rfl pass0 (pa_cons (pe_ix (ixT K) (pv 2) pe_int (fun _ _ => rfl)) (pa_cons pe_int (pa_cons (pe_gi T.i_MAX_POSITIONALS) pa_nil))))))))) pss_never pss_nil)
      (pss_cons (ps_if (pt_not (pt_val (pe_c (ok_is_integer (P := P) (w := w) (base := base) T) hr (by decide) rfl pass0 (pa_cons (pe_ix (ixT K) (pv 2) pe_int (fun _ _ => rfl)) (pa_cons (pe_ix (ixT K) (pv 2) pe_int (fun _ _ => rfl)) (pa_cons (pe_gi T.i_MAX_POSITIONALS) pa_nil)))))) pss_never pss_nil)
      (pss_cons (ps_if (pt_not (pt_val (pe_isiK K T.f_isinstance T.f_tuple bt_tuple (pv 3)))) pss_never pss_nil)
      (pss_cons (ps_setLc (i := 5) (own := [("option", 6)]) (g := gName 6) (tt := tYes) rfl sc_check_grammar.nd rfl rfl (sw_true rfl rfl rfl (by decide +kernel)) (pi_tup (pv 1)) (blkOk_by (N := ["grammar", "options", "positionals", "clauses", "is_pair", "names", "option", "index", "clause"]) (sc := defScope s_check_grammar) (by decide +kernel)) (fun _ _ _ _ _ => (pg_name (i := 6) sc_check_grammar.nd rfl (Or.inl rfl))) (fun _ _ _ _ _ => pts_nil) (fun _ _ _ _ _ => (pe_ix (ixT K) (pv 6) pe_int (fun _ _ => rfl))))
      (pss_one (ps_for PassesOwn.never rfl (pi_enumT rfl T.f_enumerate (pa_cons (pv 3) pa_nil)) (pgT K rfl (pgs_cons (pg_name (i := 7) sc_check_grammar.nd rfl (Or.inl rfl)) (pgs_cons (pg_name (i := 8) sc_check_grammar.nd rfl (Or.inl rfl)) pgs_nil))) (pss_one (ps_if (PW.pt (pw_or (pt_cmpR op_eq (pv 7) (pe_gi T.i_MAX_CLAUSES) (nomark _)) (pw_or1 (pt_not (pt_val (pe_c (ok_is_clause (P := P) (w := w) (base := base) T) hr (by decide) rfl pass0 (pa_cons (pv 5) (pa_cons (pv 8) pa_nil)))))))) pss_never pss_nil)))))))))))), ?_⟩
    refine ⟨_, rfl, _, _, _, _, rfl, tyT hp, (by decide +kernel : kitB "tuple" "tuple" = some true), true, rfl, iteF ?_⟩
    refine ⟨_, rfl, _, _, rfl, .inr hp, rfl, false, rfl, iteF ?_⟩
    refine ⟨_, rfl, _, _, rfl, hp, rfl, _, _, rfl, _, _, rfl, _, _, rfl, rfl, ?_⟩
    refine ⟨_, rfl, _, _, rfl, hx, G.n2, G.n1, G.opts, G.names, G.shorts, fun H1 e1 => ?_⟩
    have hpq1 := ex_t e1 hpq
    refine ⟨_, rfl, _, _, _, _, rfl, tyT hpq1, (by decide +kernel : kitB "tuple" "tuple" = some true), true, rfl, iteT ?_⟩
    refine ⟨_, rfl, _, _, rfl, .inr hpq1, rfl, ?_⟩
    refine ⟨_, rfl, true, rfl, iteF ?_⟩
    refine ⟨_, rfl, _, _, _, _, rfl, rfl, hpq1, at0 rfl, g.2.1.1, 0, 9, rfl, G.lo0, by have := G.lohi; have := G.hi9; omega, true, rfl, iteF ?_⟩
    refine ⟨_, rfl, _, _, _, _, rfl, rfl, hpq1, atI_nat (j := 1) rfl, _, rfl, _, _, _, _, rfl, rfl, hpq1, at0 rfl, g.2.1.2, g.2.1.1, 9, rfl, G.lohi, G.hi9, true, rfl, iteF ?_⟩
    have hz1 := ex_t e1 hz
    refine ⟨_, rfl, _, _, _, _, rfl, tyT hz1, (by decide +kernel : kitB "tuple" "tuple" = some true), true, rfl, iteF ?_⟩
    refine q_asgN (R := rStr) (evn_lcT1 (R := rOption K) (S := rStr) (as := g.1) (fun o => o.1) (evr_var (mTpl mOption) rfl (mTpl mOption _ _ _ _ e1 hx)) (by have := G.n2; omega) mOption mStr (fun _ => rfl) fun x o H1 D l ho e hD0 hD hx => evr_at bStr hD fun H2 e2 Q q => ?_) fun pn H2 xs hpn e2 h2 hl => ?_
    · obtain ⟨po, y1, y2, y3, rfl, hpo, h1, h2, h3⟩ := hx
      exact ⟨_, rfl, _, _, _, _, rfl, rfl, ex_t e2 hpo, at0 rfl, q _ H2 (Ex.refl _) h1⟩
    have e02 := e1.trans e2
    refine ⟨_, rfl, pz, zs, rfl, ex_t e02 hz, ?_⟩
    refine for_it (walk_enumT (K := K) (a := pz) (xs := zs)) (fun (i : Nat) (σ' : L2.St) (H' : Hp) => ∃ o0 o1 o2 o3 o4 o6 o7 o8, σ' = [o0, o1, o2, o3, o4, some (.ref pn), o6, o7, o8] ∧ Ex H2 H') ⟨_, _, _, _, _, _, _, _, rfl, Ex.refl _⟩ (fun i σ' H' _ ⟨_, _, _, _, _, _, _, _, _, e⟩ => ex_t (e02.trans e) hz) ?_ ?_
    · rintro i x σ' H3 H4 hi ⟨o0, o1, o2, o3, o4, o6, o7, o8, rfl, e3⟩ ⟨Tp, x1, x2, rfl, hT, rfl, hx1, hx2⟩
      cases hx1
      obtain ⟨c, hc, rc⟩ := hzl.getV hx2
      have e4 : Ex H3 (upd H3 Tp (.tup [.int (i : Nat), x2])) := Ex.new hT
      refine ⟨_, _, rfl, st_of upd_same, rfl, _, _, rfl, _, _, rfl, rfl, ?_⟩
      have hi6 : i < 6 := by
        have h6 := G.c6
        have := hzl.length
        omega
      refine ⟨_, rfl, rfl, false, blF (by intro z; injection z; omega), iteF ?_⟩
      refine ⟨_, rfl, _, rfl, _, names g, _, c, rfl, ⟨pn, xs, rfl, sq_of (e4 _ _ (e3 _ _ h2)), hl.mono mStr (e3.trans e4)⟩, mCl _ _ _ _ ((e02.trans e3).trans e4) rc, G.cls c (List.mem_of_getElem? hc), fun H5 e5 => ⟨true, rfl, iteF ?_⟩⟩
      exact ⟨_, _, _, _, _, _, _, _, rfl, (e3.trans e4).trans e5⟩
    · rintro σ' H3 ⟨_, _, _, _, _, _, _, _, rfl, e3⟩
      exact k H3 (e02.trans e3)
theorem ok_option_names (T : Txt K mg) : Cal P w K mg base CX0 6 "option_names" (spOptionNames K) := by
  refine cal0 (N := ["grammar"]) T.D_option_names T.g_option_names sc_option_names (fun vs H Q E h => ?_) fun cdv A outer s H vs Q E hr h => ?_
  · obtain ⟨_, _, rfl, _⟩ := h; rfl
  · obtain ⟨v, g, rfl, hg, G, k⟩ := h
    refine ⟨_, (pss_cons (ps_expr (pe_c (ok_check_grammar (P := P) (w := w) (base := base) T) hr (by decide) rfl pass0 (pa_cons (pv 0) pa_nil)))
      (pss_one (ps_ret (pe_c (ok_names_of (P := P) (w := w) (base := base) T) hr (by decide) rfl pass0 (pa_cons (pv 0) pa_nil))))), ?_⟩
    refine ⟨_, rfl, _, g, rfl, hg, G, fun H1 e1 => ⟨_, rfl, _, g, rfl, mGram _ _ _ _ e1 hg, by have := G.n2; omega, fun p H2 xs hp e2 h2 hl => ?_⟩⟩
    exact k p H2 xs (fresh_back e1 hp) (e1.trans e2) h2 hl
end
end K19

/-! ## K19E -/
set_option Elab.async false
set_option linter.all false
set_option maxRecDepth 100000
set_option maxHeartbeats 4000000
namespace K19
open PySem PySem.Spec PyProof.Rows L2 Evl
def RetR {α : Type} (R : DR α) (a : α) (H : Hp) (Q : VK) : Prop := ∀ v H', Ex H H' → R H' v a → Q v H'
/-! ### the mirror of literals and clauses -/
def neg (l : Lit) : Lit := (l.1, !l.2)
def litsOf (c : Clause) : Lit × Lit := if c.1 = "needs" then ((c.2.1, false), (c.2.2, true)) else ((c.2.1, decide (c.1 = "either")), (c.2.2, decide (c.1 = "either")))
theorem neg_neg (l : Lit) : neg (neg l) = l := by cases l; simp [neg]




theorem sc_check_names : FnScope ["grammar", "names", "known", "name"] p_check_names (defScope s_check_names) := ⟨rfl, rfl, rfl, by decide +kernel, rfl, by decide +kernel, by decide +kernel⟩
theorem sc_check_clause : FnScope ["grammar", "clause"] p_check_clause (defScope s_check_clause) := ⟨rfl, rfl, rfl, by decide +kernel, rfl, by decide +kernel, by decide +kernel⟩
theorem sc_negate : FnScope ["literal", "name", "truth"] p_negate (defScope s_negate) := ⟨rfl, rfl, rfl, by decide +kernel, rfl, by decide +kernel, by decide +kernel⟩
theorem sc_literals_of : FnScope ["clause", "word", "first", "second"] p_literals_of (defScope s_literals_of) := ⟨rfl, rfl, rfl, by decide +kernel, rfl, by decide +kernel, by decide +kernel⟩
def spCheckNames (K : PySem.W.Frag) : Sp := fun vs H Q _ => ∃ v g u ns, vs = [v, u] ∧ rGram K H v g ∧ g.1.length ≤ 40 ∧ rLst K rStr H u ns ∧ (∀ z ∈ ns, z ∈ names g) ∧ ∀ H', Ex H H' → Q .non H'
def spCheckClause (K : PySem.W.Frag) : Sp := fun vs H Q _ => ∃ v g u c, vs = [v, u] ∧ rGram K H v g ∧ g.1.length ≤ 40 ∧ rCl K H u c ∧ ClOk (names g) c ∧ ∀ H', Ex H H' → Q .non H'
def spNegate (K : PySem.W.Frag) : Sp := fun vs H Q _ => ∃ v l, vs = [v] ∧ rLit K H v l ∧ RetR (rLit K) (neg l) H Q
def spLitsOf (K : PySem.W.Frag) : Sp := fun vs H Q _ => ∃ v c, vs = [v] ∧ rCl K H v c ∧ RetR (rT2 K (rLit K) (rLit K)) (litsOf c) H Q
section
variable {P : Program} {w : World} {K : PySem.W.Frag} {mg : Str → Option Value} {base : Heap}
theorem ok_check_names (T : Txt K mg) : Cal P w K mg base CX0 3 "check_names" (spCheckNames K) := by
  refine cal0 (N := ["grammar", "names", "known", "name"]) T.D_check_names T.g_check_names sc_check_names (fun vs H Q E h => ?_) fun cdv A outer s H vs Q E hr h => ?_
  · obtain ⟨_, _, _, _, rfl, _⟩ := h; rfl
  · obtain ⟨v, g, u, ns, rfl, hg, hl, ⟨pn, xs, rfl, hn, hxl⟩, hk, k⟩ := h
    refine ⟨_, (pss_cons (ps_set (i := 2) sc_check_names.nd rfl (Or.inl rfl) (pe_c (ok_names_of (P := P) (w := w) (base := base) T) hr (by decide) rfl pass0 (pa_cons (pv 0) pa_nil)))
      (pss_one (ps_for PassesOwn.never rfl (pi_list (pv 1)) (pg_name (i := 3) sc_check_names.nd rfl (Or.inl rfl)) (pss_one (ps_if (PW.pt (pw_or (pt_not (pt_val (pe_isiK K T.f_isinstance T.f_str bt_str (pv 3)))) (pw_or1 (pt_cmpR (notInSq K) (pv 3) (pv 2) rfl)))) pss_never pss_nil))))), ?_⟩
    refine ⟨_, rfl, _, g, rfl, hg, hl, fun p H1 ys hp e1 h1 hyl => ?_⟩
    have ey := lr_strs hyl
    subst ey
    refine ⟨_, rfl, pn, rfl, ⟨xs, ex_l e1 hn⟩, for_list (K := K) (a := pn) (xs := xs) (fun (i : Nat) (σ' : L2.St) (H' : Hp) => ∃ o0 o1 o3, σ' = [o0, o1, some (.ref p), o3] ∧ Ex H1 H') ⟨_, _, _, rfl, Ex.refl _⟩ (fun i σ' H' _ ⟨_, _, _, _, e⟩ => ex_l (e1.trans e) hn) ?_ ?_⟩
    · rintro i x σ' H2 hi ⟨o0, o1, o3, rfl, e2⟩
      obtain ⟨z, hz, rz⟩ := hxl.getV hi
      obtain rfl : x = .str z := rz
      have hm := hk z (List.mem_of_getElem? hz)
      refine ⟨_, rfl, _, _, _, _, rfl, .base (.str _), (by decide +kernel : kitB "str" "str" = some true), true, rfl, iteF ?_⟩
      refine ⟨_, rfl, _, rfl, _, _, rfl, .inl (sq_of (e2 _ _ h1)), rfl, flat_strs _, false, ?_, iteF ?_⟩
      · show V.bl (!inV (.str z) ((names g).map V.str)) = V.bl false
        rw [inV_strs, decide_eq_true hm]
        rfl
      · exact ⟨_, _, _, rfl, e2⟩
    · rintro σ' H2 ⟨_, _, _, rfl, e2⟩
      exact k H2 (e1.trans e2)
theorem ok_check_clause (T : Txt K mg) : Cal P w K mg base CX0 3 "check_clause" (spCheckClause K) := by
  refine cal0 (N := ["grammar", "clause"]) T.D_check_clause T.g_check_clause sc_check_clause (fun vs H Q E h => ?_) fun cdv A outer s H vs Q E hr h => ?_
  · obtain ⟨_, _, _, _, rfl, _⟩ := h; rfl
  · obtain ⟨v, g, u, c, rfl, hg, hl, hc, hk, k⟩ := h
    refine ⟨_, (pss_one (ps_if (pt_not (pt_val (pe_c (ok_is_clause (P := P) (w := w) (base := base) T) hr (by decide) rfl pass0 (pa_cons (pe_c (ok_names_of (P := P) (w := w) (base := base) T) hr (by decide) rfl pass0 (pa_cons (pv 0) pa_nil)) (pa_cons (pv 1) pa_nil))))) pss_never pss_nil)), ?_⟩
    refine ⟨_, rfl, _, g, rfl, hg, hl, fun p H1 ys hp e1 h1 hyl => ?_⟩
    exact ⟨_, rfl, _, names g, _, c, rfl, ⟨p, ys, rfl, sq_of h1, hyl⟩, mCl _ _ _ _ e1 hc, hk, fun H2 e2 => ⟨true, rfl, iteF (k H2 (e1.trans e2))⟩⟩
theorem ok_negate (T : Txt K mg) : Cal P w K mg base CX0 1 "negate" (spNegate K) := by
  refine cal0 (N := ["literal", "name", "truth"]) T.D_negate T.g_negate sc_negate (fun vs H Q E h => ?_) fun cdv A outer s H vs Q E hr h => ?_
  · obtain ⟨_, _, rfl, _⟩ := h; rfl
  · obtain ⟨v, l, rfl, ⟨p, x, y, rfl, hp, rfl, rfl⟩, k⟩ := h
    refine ⟨_, (pss_cons (ps_asg (pv 0) (pgT K rfl (pgs_cons (pg_name (i := 1) sc_negate.nd rfl (Or.inl rfl)) (pgs_cons (pg_name (i := 2) sc_negate.nd rfl (Or.inl rfl)) pgs_nil))))
      (pss_one (ps_ret (pe_tup (pa_cons (pv 1) (pa_cons (pe_not (pv 2)) pa_nil)))))), ?_⟩
    refine ⟨_, rfl, _, _, rfl, hp, rfl, _, _, rfl, _, _, rfl, rfl, ?_⟩
    refine ⟨_, rfl, _, rfl, _, rfl, by show 2 ≤ sizeLine; decide, fun q hq => k _ _ (Ex.new hq) ⟨q, _, _, rfl, st_of upd_same, rfl, rfl⟩⟩
theorem ok_literals_of (T : Txt K mg) : Cal P w K mg base CX0 1 "literals_of" (spLitsOf K) := by
  refine cal0 (N := ["clause", "word", "first", "second"]) T.D_literals_of T.g_literals_of sc_literals_of (fun vs H Q E h => ?_) fun cdv A outer s H vs Q E hr h => ?_
  · obtain ⟨_, _, rfl, _⟩ := h; rfl
  · obtain ⟨v, c, rfl, ⟨p, x, y, z, rfl, hp, rfl, rfl, rfl⟩, k⟩ := h
    refine ⟨_, (pss_cons (ps_asg (pv 0) (pgT K rfl (pgs_cons (pg_name (i := 1) sc_literals_of.nd rfl (Or.inl rfl)) (pgs_cons (pg_name (i := 2) sc_literals_of.nd rfl (Or.inl rfl)) (pgs_cons (pg_name (i := 3) sc_literals_of.nd rfl (Or.inl rfl)) pgs_nil)))))
      (pss_cons (ps_if (pt_cmpR op_eq (pv 1) pe_str (nomark _)) (pss_one (ps_ret (pe_tup (pa_cons (pe_tup (pa_cons (pv 2) (pa_cons pe_bl pa_nil))) (pa_cons (pe_tup (pa_cons (pv 3) (pa_cons pe_bl pa_nil))) pa_nil))))) pss_nil)
      (pss_one (ps_ret (pe_tup (pa_cons (pe_tup (pa_cons (pv 2) (pa_cons (pe_cmpR op_eq (pv 1) pe_str (nomark _)) pa_nil))) (pa_cons (pe_tup (pa_cons (pv 3) (pa_cons (pe_cmpR op_eq (pv 1) pe_str (nomark _)) pa_nil))) pa_nil))))))), ?_⟩
    refine ⟨_, rfl, _, _, rfl, hp, rfl, _, _, rfl, _, _, rfl, _, _, rfl, rfl, ?_⟩
    by_cases hc : c.1 = "needs"
    · refine ⟨_, rfl, rfl, true, blT (by rw [hc]), iteT ?_⟩
      refine ⟨_, rfl, by show 2 ≤ sizeLine; decide, fun a ha => ⟨_, rfl, by show 2 ≤ sizeLine; decide, fun b hb => ⟨by show 2 ≤ sizeLine; decide, fun q hq => ?_⟩⟩⟩
      have e1 : Ex H _ := Ex.new (o := .tup [V.str c.2.1, V.bl false]) ha
      have e2 := Ex.new (o := .tup [V.str c.2.2, V.bl true]) hb
      have e3 := Ex.new (o := .tup [V.ref a, V.ref b]) hq
      refine k _ _ ((e1.trans e2).trans e3) ?_
      unfold litsOf
      rw [if_pos hc]
      exact ⟨q, _, _, rfl, st_of upd_same, ⟨a, _, _, rfl, st_of (e3 _ _ (e2 _ _ upd_same)), rfl, rfl⟩, ⟨b, _, _, rfl, st_of (e3 _ _ upd_same), rfl, rfl⟩⟩
    · refine ⟨_, rfl, rfl, false, blF (fun z => hc (by injection z)), iteF ?_⟩
      refine ⟨_, rfl, _, rfl, rfl, by show 2 ≤ sizeLine; decide, fun a ha => ⟨_, rfl, _, rfl, rfl, by show 2 ≤ sizeLine; decide, fun b hb => ⟨by show 2 ≤ sizeLine; decide, fun q hq => ?_⟩⟩⟩
      have e1 : Ex H _ := Ex.new (o := .tup [V.str c.2.1, V.bl (decide (V.str c.1 = V.str "either"))]) ha
      have e2 := Ex.new (o := .tup [V.str c.2.2, V.bl (decide (V.str c.1 = V.str "either"))]) hb
      have e3 := Ex.new (o := .tup [V.ref a, V.ref b]) hq
      have eb : decide (V.str c.1 = V.str "either") = decide (c.1 = "either") := by
        by_cases z : c.1 = "either"
        · rw [z, decide_eq_true rfl, decide_eq_true rfl]
        · rw [decide_eq_false z, decide_eq_false fun q => z (by injection q)]
      refine k _ _ ((e1.trans e2).trans e3) ?_
      unfold litsOf
      rw [if_neg hc]
      exact ⟨q, _, _, rfl, st_of upd_same, ⟨a, _, _, rfl, st_of (e3 _ _ (e2 _ _ upd_same)), rfl, congrArg V.bl eb⟩, ⟨b, _, _, rfl, st_of (e3 _ _ upd_same), rfl, congrArg V.bl eb⟩⟩
end
end K19

/-! ## K19L -/
set_option Elab.async false
set_option linter.all false
set_option maxRecDepth 100000
set_option maxHeartbeats 4000000
namespace K19
open PySem PySem.Spec PyProof.Rows L2 Evl
/-! ### dicts whose keys are literals: the keys' own tuples are told -/
noncomputable abbrev LK (P : Program) (w : World) : HeapKind P w (List Leaf) := tupleKind (leafKind P w)
def lkey (l : Lit) : List Leaf := [.text l.1, .num (if l.2 = true then 1 else 0)]
theorem lkey_inj {a b : Lit} (h : lkey a = lkey b) : a = b := by
  obtain ⟨x, p⟩ := a
  obtain ⟨y, q⟩ := b
  simp only [lkey, List.cons.injEq, Leaf.text.injEq, Leaf.num.injEq] at h
  obtain ⟨h1, h2, _⟩ := h
  subst h1
  cases p <;> cases q <;> simp at h2 ⊢
abbrev Ent := Lit × Addr × V
/-- an entry of ours, an entry of the model's -/
def EntIs (p : Ent) (q : List Leaf × Addr × Value) : Prop := q.1 = lkey p.1 ∧ q.2.1 = p.2.1 ∧ RelV p.2.2 q.2.2
def LDat (P : Program) (w : World) (h : Heap) (d : Addr) (kvs : List Ent) : Prop :=
  kvs.length ≤ sizeLine ∧ (d == sysModules) = false ∧ ∃ xs : List (List Leaf × Addr × Value), Paired EntIs kvs xs ∧ ∃ o es ep, h.get? d = some o ∧ o.ExactDict ∧ o.data = .dict es ep ∧ es.toList = xs.map (entryOfKey (LK P w)) ∧ (xs.map (·.1)).Nodup
def LD (P : Program) (w : World) (d : Addr) (kvs : List Ent) : HO := .ext fun h => LDat P w h d kvs
theorem ld_new {P : Program} {w : World} {H : Hp} {h : Heap} {d : Addr} {kvs : List Ent} (x : LDat P w h d kvs) : ObjOk P w H h d (LD P w d kvs) := by
  refine ⟨x, ?_, fun h1 h2 ⟨z1, z2, xs, r, o, es, ep, e, c⟩ k => ⟨z1, z2, xs, r, o, es, ep, k o e, c⟩⟩
  obtain ⟨_, _, _, _, o, _, _, e, _⟩ := x
  exact ⟨o, e⟩
theorem ld_ne_tup {P : Program} {w : World} {d : Addr} {kvs : List Ent} {xs : List V} : HO.tup xs ≠ LD P w d kvs := fun z => by unfold LD at z; cases z
theorem ld_ne_lst {P : Program} {w : World} {d : Addr} {kvs : List Ent} {xs : List V} : HO.lst xs ≠ LD P w d kvs := fun z => by unfold LD at z; cases z
theorem ld_ne_frz {P : Program} {w : World} {d : Addr} {kvs : List Ent} {o : Obj} {u : HO} : HO.frz o u ≠ LD P w d kvs := fun z => by unfold LD at z; cases z
theorem ld_mut {P : Program} {w : World} {d : Addr} {kvs : List Ent} : Mut (some (LD P w d kvs)) := True.intro
/-- a dict that may be read -/
def LRd (P : Program) (w : World) (H : Hp) (d : Addr) (kvs : List Ent) : Prop := Rd H d (LD P w d kvs)
def LKs (K : PySem.W.Frag) (H : Hp) (kvs : List Ent) : Prop := ∀ p ∈ kvs, SqT K H p.2.1 [.str p.1.1, .bl p.1.2]
theorem LKs.mono {K : PySem.W.Frag} {H H' : Hp} {kvs : List Ent} (h : LKs K H kvs) (e : Ex H H') : LKs K H' kvs := fun p hp => ex_t e (h p hp)
def lkV (kvs : List Ent) (l : Lit) : Option V := (kvs.find? fun p => decide (p.1 = l)).map (·.2.2)
theorem lkV_rel {kvs : List Ent} {xs : List (List Leaf × Addr × Value)} (r : Paired EntIs kvs xs) (l : Lit) : RelO (lkV kvs l) ((atKey xs (lkey l)).map (·.2)) := by
  induction r with
  | nil => exact True.intro
  | @cons p q ps qs h t ih =>
    obtain ⟨h1, h2, h3⟩ := h
    unfold lkV atKey
    by_cases e : p.1 = l
    · have e2 : q.1 = lkey l := by rw [h1, e]
      rw [List.find?_cons_of_pos (by simpa using e), List.find?_cons_of_pos (by simpa using e2)]
      exact h3
    · have e2 : ¬ q.1 = lkey l := fun z => e (lkey_inj (by rw [← h1, z]))
      rw [List.find?_cons_of_neg (by simpa using e), List.find?_cons_of_neg (by simpa using e2)]
      exact ih
def lset (l : Lit) (v : V) (p : Ent) : Ent := if p.1 = l then (p.1, p.2.1, v) else p
def lput (kvs : List Ent) (l : Lit) (k : Addr) (v : V) : List Ent := if (lkV kvs l).isSome then kvs.map (lset l v) else kvs ++ [(l, k, v)]
theorem lset_rel {l : Lit} {v : V} {u : Value} (rv : RelV v u) : ∀ {kvs : List Ent} {xs : List (List Leaf × Addr × Value)}, Paired EntIs kvs xs → Paired EntIs (kvs.map (lset l v)) (xs.map (putAt (lkey l) u))
  | _, _, .nil => .nil
  | p :: ps, q :: qs, .cons h t => by
    refine .cons ?_ (lset_rel rv t)
    obtain ⟨h1, h2, h3⟩ := h
    unfold putAt lset
    by_cases e : p.1 = l
    · have e2 : q.1 = lkey l := by rw [h1, e]
      rw [if_pos e, if_pos e2]
      exact ⟨h1, h2, rv⟩
    · have e2 : ¬ q.1 = lkey l := fun z => e (lkey_inj (by rw [← h1, z]))
      rw [if_neg e, if_neg e2]
      exact ⟨h1, h2, h3⟩
theorem lapp_rel {l : Lit} {k : Addr} {v : V} {u : Value} (rv : RelV v u) : ∀ {kvs : List Ent} {xs : List (List Leaf × Addr × Value)}, Paired EntIs kvs xs → Paired EntIs (kvs ++ [(l, k, v)]) (xs ++ [(lkey l, k, u)])
  | _, _, .nil => .cons ⟨rfl, rfl, rv⟩ .nil
  | _, _, .cons h t => .cons h (lapp_rel rv t)
theorem lput_rel {kvs : List Ent} {xs : List (List Leaf × Addr × Value)} (r : Paired EntIs kvs xs) (l : Lit) (k : Addr) {v : V} {u : Value} (rv : RelV v u) : Paired EntIs (lput kvs l k v) (storedH xs (lkey l) k u) := by
  have hs := (lkV_rel r l).isSome_eq
  rw [Option.isSome_map] at hs
  unfold lput storedH
  rw [hs]
  split
  · exact lset_rel rv r
  · exact lapp_rel rv r
theorem lput_len (kvs : List Ent) (l : Lit) (k : Addr) (v : V) : (lput kvs l k v).length ≤ kvs.length + 1 := by
  unfold lput
  split <;> simp
section
variable {X : Cx} {pins : List (Addr × Obj)} {σ : L2.St} {H : Hp} {s : Shared} {d a : Addr} {l : Lit} {kvs : List Ent} {A : Around} {E : Value → Shared → Prop}
theorem leaf_items {its : List Value} (r : Vals [V.str l.1, V.bl l.2] its) : ItemsAre (leafKind X.prog X.w) (lkey l) its := by
  cases r with
  | cons r1 r =>
    cases r with
    | cons r2 r =>
      cases r
      obtain ⟨t, rfl⟩ := r1
      obtain rfl := (show _ = Value.bool l.2 from r2)
      refine .cons ?_ (.cons ?_ .nil)
      · show Value.isStrOf l.1 (.str l.1 t) = true
        simp [Value.isStrOf]
      · show decide ((if l.2 = true then (1 : Int) else 0) = (if l.2 = true then 1 else 0)) = true
        simp
theorem lit_key (I : Inv X pins σ H s) (h : SqT X.K H a [.str l.1, .bl l.2]) : (LK X.prog X.w).is s.heap (lkey l) a := by
  obtain ⟨its, rv, ⟨o, ho, hc, n, hd⟩, _⟩ := I.tuple h
  exact ⟨o, its.toArray, n, ho, hc, hd, by simpa using leaf_items rv⟩
theorem ld_dict (I : Inv X pins σ H s) (h : LRd X.prog X.w H d kvs) (hk : LKs X.K H kvs) : kvs.length ≤ sizeLine ∧ (d == sysModules) = false ∧ ∃ xs, Paired EntIs kvs xs ∧ s.heap.DictOfH (LK X.prog X.w) d xs := by
  obtain ⟨⟨z1, z2, xs, r, o, es, ep, e, c, dd, he, hn⟩, _⟩ := (show ObjOk X.prog X.w H s.heap d (LD X.prog X.w d kvs) from h.ok I.hok)
  refine ⟨z1, z2, xs, r, o, es, ep, e, c, dd, he, fun x hx => ?_, hn⟩
  have all : ∀ {l : List Ent} {m : List (List Leaf × Addr × Value)}, Paired EntIs l m → (∀ p ∈ l, SqT X.K H p.2.1 [.str p.1.1, .bl p.1.2]) → ∀ x ∈ m, (LK X.prog X.w).is s.heap x.1 x.2.1 := by
    intro l m q
    induction q with
    | nil => intro _ x hx; exact nomatch hx
    | @cons p q ps qs hq t ih =>
      intro hl x hx
      rcases List.mem_cons.mp hx with e | hx
      · subst e
        rw [hq.1, hq.2.1]
        exact lit_key I (hl p (List.mem_cons_self ..))
      · exact ih (fun p hp => hl p (List.mem_cons_of_mem _ hp)) x hx
  exact all r hk x hx
theorem l_getItem {v : V} {Q : Value → Shared → Prop} (hu : A.units + 1 < cLine) (I : Inv X pins σ H s) (h : LRd X.prog X.w H d kvs) (hk : LKs X.K H kvs) (ha : SqT X.K H a [.str l.1, .bl l.2]) (hv : lkV kvs l = some v) (q : ∀ u s', Inv X pins σ H s' → RelV v u → Q u s') :
    wpAny (model X.prog X.w) A (getItem (.ref d) (.ref a)) Q E s := by
  obtain ⟨z, hd, xs, r, dd⟩ := ld_dict I h hk
  obtain ⟨u, hw, ru⟩ := RelO.some_of (v := v) (o := (atKey xs (lkey l)).map (·.2)) (by rw [← hv]; exact lkV_rel r l)
  obtain ⟨p, hp, hp2⟩ := Option.map_eq_some_iff.mp hw
  refine wpAny_getItem_heap (tupleKind_room_in1 hu) (lit_key I ha) dd hp ?_
  rw [hp2]
  exact q u _ (I.tok _) ru
theorem l_in {Q : Value → Shared → Prop} (hu : A.units + 1 < cLine) (I : Inv X pins σ H s) (h : LRd X.prog X.w H d kvs) (hk : LKs X.K H kvs) (ha : SqT X.K H a [.str l.1, .bl l.2]) (q : ∀ s', Inv X pins σ H s' → Q (.bool (lkV kvs l).isSome) s') :
    wpAny (model X.prog X.w) A (compareOp .In (.ref a) (.ref d)) Q E s := by
  obtain ⟨z, hd, xs, r, dd⟩ := ld_dict I h hk
  refine wpAny_in_heap (tupleKind_room_in1 hu) (lit_key I ha) hd dd ?_
  have e := (lkV_rel r l).isSome_eq
  rw [Option.isSome_map] at e
  rw [← e]
  exact q _ (I.tok _)
theorem l_notIn {Q : Value → Shared → Prop} (hu : A.units + 1 < cLine) (I : Inv X pins σ H s) (h : LRd X.prog X.w H d kvs) (hk : LKs X.K H kvs) (ha : SqT X.K H a [.str l.1, .bl l.2]) (q : ∀ s', Inv X pins σ H s' → Q (.bool (!(lkV kvs l).isSome)) s') :
    wpAny (model X.prog X.w) A (compareOp .NotIn (.ref a) (.ref d)) Q E s := by
  obtain ⟨z, hd, xs, r, dd⟩ := ld_dict I h hk
  refine wpAny_notIn_heap (tupleKind_room_in1 hu) (lit_key I ha) hd dd ?_
  have e := (lkV_rel r l).isSome_eq
  rw [Option.isSome_map] at e
  rw [← e]
  exact q _ (I.tok _)
theorem l_setItem {v : V} {u : Value} {Q : Unit → Shared → Prop} (hu : A.units + 1 < cLine) (I : Inv X pins σ H s) (h : H d = some (LD X.prog X.w d kvs)) (hk : LKs X.K H kvs) (hl : kvs.length < sizeLine) (ha : SqT X.K H a [.str l.1, .bl l.2]) (rv : RelV v u)
    (q : ∀ s', Inv X pins σ (upd H d (LD X.prog X.w d (lput kvs l a v))) s' → Q () s') : wpAny (model X.prog X.w) A (setItem (.ref d) (.ref a) u) Q E s := by
  obtain ⟨z, hd, xs, r, dd⟩ := ld_dict I (.inl h) hk
  have hz : xs.length ≤ sizeLine := by rw [← Paired.length r]; exact z
  have hl' : (lput kvs l a v).length ≤ sizeLine := by have := lput_len kvs l a v; omega
  refine wpAny_setItem_heap (hsz := hz) (tupleKind_room_in1 hu) (lit_key I ha) dd fun h' dd' hs => q _ ?_
  obtain ⟨o, es, ep, hq, h2, h3, h4, _, h5⟩ := dd'
  exact d_write I (by rw [h]; exact ld_mut) hs ⟨o, hq⟩ (ld_new ⟨hl', hd, _, lput_rel r l a rv, o, es, ep, hq, h2, h3, h4, h5⟩)
end
end K19

/-! ## K19M -/
set_option Elab.async false
set_option linter.all false
set_option maxRecDepth 100000
set_option maxHeartbeats 4000000
namespace K19
open PySem PySem.Spec PyProof.Rows L2 Evl
theorem ld_rd {P : Program} {w : World} {H : Hp} {h : Heap} {d : Addr} {kvs : List Ent} (e : LRd P w H d kvs) (ok : HOk P w H h) : LDat P w h d kvs := (show ObjOk P w H h d (LD P w d kvs) from e.ok ok).1
theorem ld_typeIs {X : Cx} {pins : List (Addr × Obj)} {σ : L2.St} {H : Hp} {s : Shared} {d : Addr} {kvs : List Ent} (I : Inv X pins σ H s) (g : LRd X.prog X.w H d kvs) : s.TypeIs (.ref d) "dict" := by
  obtain ⟨_, _, xs, _, o, es, ep, ho, hx, _⟩ := ld_rd g I.hok
  exact ⟨o, ho, hx.1⟩
theorem ld_noDict {X : Cx} {pins : List (Addr × Obj)} {σ : L2.St} {H : Hp} {s : Shared} {d : Addr} {kvs : List Ent} (I : Inv X pins σ H s) (g : LRd X.prog X.w H d kvs) : ∀ b, Value.ref d = .ref b → ∃ ob, s.heap.get? b = some ob ∧ ob.dict = none := fun b q => by
  cases q
  obtain ⟨_, _, xs, _, o, es, ep, ho, hx, _⟩ := ld_rd g I.hok
  exact ⟨o, ho, hx.2.1⟩
/-- the dict at d, its keys the literals, readable -/
def LOk (P : Program) (w : World) (K : PySem.W.Frag) (H : Hp) (d : Addr) (kvs : List Ent) : Prop := LRd P w H d kvs ∧ LKs K H kvs
/-- d[y], y in d, y not in d, d.get(y, z), d[y] = v -/
def tLGet (P : Program) (w : World) (K : PySem.W.Frag) (td ty : TE) : TE := fun σ H Q => td σ H fun x H1 => ty σ H1 fun y H2 => ∃ d kvs l v, x = .ref d ∧ rLit K H2 y l ∧ LOk P w K H2 d kvs ∧ lkV kvs l = some v ∧ Q v H2
def tLIn (P : Program) (w : World) (K : PySem.W.Frag) (ty td : TE) : TE := fun σ H Q => ty σ H fun y H1 => td σ H1 fun x H2 => ∃ d kvs l, x = .ref d ∧ rLit K H2 y l ∧ LOk P w K H2 d kvs ∧ Q (.bl (lkV kvs l).isSome) H2
def tLNotIn (P : Program) (w : World) (K : PySem.W.Frag) (ty td : TE) : TE := fun σ H Q => ty σ H fun y H1 => td σ H1 fun x H2 => ∃ d kvs l, x = .ref d ∧ rLit K H2 y l ∧ LOk P w K H2 d kvs ∧ Q (.bl (!(lkV kvs l).isSome)) H2
def tLGet2 (P : Program) (w : World) (K : PySem.W.Frag) (td ty tx : TE) : TE := fun σ H Q => td σ H fun x H1 => ∃ d kvs0, x = .ref d ∧ LRd P w H1 d kvs0 ∧ ty σ H1 fun y H2 => tx σ H2 fun z H3 => ∃ kvs l, rLit K H3 y l ∧ LOk P w K H3 d kvs ∧ Q ((lkV kvs l).getD z) H3
def sLPut (P : Program) (w : World) (K : PySem.W.Frag) (td ty tv : TE) : TS := fun D σ H => tv σ H fun v H1 => td σ H1 fun x H2 => ty σ H2 fun y H3 => ∃ d a kvs l, x = .ref d ∧ y = .ref a ∧ SqT K H3 a [.str l.1, .bl l.2] ∧ H3 d = some (LD P w d kvs) ∧ LKs K H3 kvs ∧ kvs.length < sizeLine ∧ D.nx σ (upd H3 d (LD P w d (lput kvs l a v)))
theorem litB {K : PySem.W.Frag} {H : Hp} {y : V} {l : Lit} (h : rLit K H y l) : ∃ a, y = .ref a ∧ SqT K H a [.str l.1, .bl l.2] := by
  obtain ⟨a, u, v, rfl, h1, h2, h3⟩ := h
  cases (show u = .str l.1 from h2)
  cases (show v = .bl l.2 from h3)
  exact ⟨a, rfl, h1⟩
section
variable {X : Cx} {o i e f value : Expr} {pos pos' apos cpos : Pos} {td ty tx tv : TE}
theorem pe_lget (P : Program) (w : World) (K : PySem.W.Frag) (hu : X.A.units + 1 < cLine) (ho : PE X o td) (hi : PE X i ty) (hs : NoSl i) (hP : X.prog = P := by rfl) (hw : X.w = w := by rfl) (hK : X.K = K := by rfl) : PE X (.Subscript o i pos) (tLGet P w K td ty) := by
  subst hP hw hK
  refine ⟨fun pins s σ H Q I h => ?_⟩
  refine subD_of PySem.F.slot_dict_getitem.lookup hs (thn (ho.run pins s σ H _ I h) fun u s1 ⟨x, H1, I1, rx, q1⟩ => thn (hi.run pins s1 σ H1 _ I1 q1) fun iv s2 ⟨y, H2, I2, ry, d, kvs, l, v, ex, rl, g, hv, q2⟩ => ?_)
  subst ex
  obtain ⟨a, rfl, ha⟩ := litB rl
  obtain rfl : u = Value.ref d := rx
  obtain rfl : iv = Value.ref a := ry
  exact ⟨ld_typeIs I2 g.1, l_getItem hu I2 g.1 g.2 ha hv fun w' s3 I3 rw' => ⟨v, H2, I3, rw', q2⟩⟩
theorem pc_lin (P : Program) (w : World) (K : PySem.W.Frag) (hu : X.A.units + 1 < cLine) (hi : PE X i ty) (ho : PE X o td) (hP : X.prog = P := by rfl) (hw : X.w = w := by rfl) (hK : X.K = K := by rfl) : PC X .In i o (tLIn P w K ty td) := by
  subst hP hw hK
  refine ⟨fun pins s σ H Q I h => ?_⟩
  refine thn (hi.run pins s σ H _ I h) fun iv s1 ⟨y, H1, I1, ry, q1⟩ => thn (ho.run pins s1 σ H1 _ I1 q1) fun u s2 ⟨x, H2, I2, rx, d, kvs, l, ex, rl, g, q2⟩ => ?_
  subst ex
  obtain ⟨a, rfl, ha⟩ := litB rl
  obtain rfl : u = Value.ref d := rx
  obtain rfl : iv = Value.ref a := ry
  exact l_in hu I2 g.1 g.2 ha fun s3 I3 => ⟨.bl _, H2, I3, rfl, q2⟩
theorem pc_lnotin (P : Program) (w : World) (K : PySem.W.Frag) (hu : X.A.units + 1 < cLine) (hi : PE X i ty) (ho : PE X o td) (hP : X.prog = P := by rfl) (hw : X.w = w := by rfl) (hK : X.K = K := by rfl) : PC X .NotIn i o (tLNotIn P w K ty td) := by
  subst hP hw hK
  refine ⟨fun pins s σ H Q I h => ?_⟩
  refine thn (hi.run pins s σ H _ I h) fun iv s1 ⟨y, H1, I1, ry, q1⟩ => thn (ho.run pins s1 σ H1 _ I1 q1) fun u s2 ⟨x, H2, I2, rx, d, kvs, l, ex, rl, g, q2⟩ => ?_
  subst ex
  obtain ⟨a, rfl, ha⟩ := litB rl
  obtain rfl : u = Value.ref d := rx
  obtain rfl : iv = Value.ref a := ry
  exact l_notIn hu I2 g.1 g.2 ha fun s3 I3 => ⟨.bl _, H2, I3, rfl, q2⟩
theorem ps_lput (P : Program) (w : World) (K : PySem.W.Frag) (hu : X.A.units + 1 < cLine) (ho : PE X o td) (hi : PE X i ty) (hv : PE X value tv) (hs : swapsWith value (some (.Subscript o i pos')) pos.line X.env = pure false) (hP : X.prog = P := by rfl) (hw : X.w = w := by rfl) (hK : X.K = K := by rfl) :
    PS X (.Assign [.Subscript o i pos'] value pos) (sLPut P w K td ty tv) := by
  subst hP hw hK
  refine ⟨fun pins s σ H D I h => ?_⟩
  refine wpAny_Assign_Subscript (thn (hv.run pins s σ H _ I h) fun r s1 ⟨v, H1, I1, rv, q1⟩ => thn (ho.run pins s1 σ H1 _ I1 q1) fun u s2 ⟨x, H2, I2, rx, q2⟩ => thn (hi.run pins s2 σ H2 _ I2 q2) fun iv s3 ⟨y, H3, I3, ry, d, a, kvs, l, ex, ey, ha, hd, hk, hl, q3⟩ => ?_) hs
  subst ex ey
  obtain rfl : u = Value.ref d := rx
  obtain rfl : iv = Value.ref a := ry
  exact l_setItem hu I3 hd hk hl ha rv fun s4 I4 => ⟨σ, _, I4, q3⟩
theorem l_get2 {pins : List (Addr × Obj)} {σ : L2.St} {H : Hp} {s : Shared} {A : Around} {E : Value → Shared → Prop} {d a : Addr} {l : Lit} {kvs : List Ent} {z : V} {r : Value} {Q : Value → Shared → Prop} (hu : A.units + 1 < cLine) (I : Inv X pins σ H s) (h : LRd X.prog X.w H d kvs) (hk : LKs X.K H kvs) (ha : SqT X.K H a [.str l.1, .bl l.2]) (rz : RelV z r)
    (q : ∀ w' s', Inv X pins σ H s' → RelV ((lkV kvs l).getD z) w' → Q w' s') : wpAny (model X.prog X.w) A (call (.builtin "dict.get") [.ref d, .ref a, r]) Q E s := by
  obtain ⟨_, hd, xs, rel, dd⟩ := ld_dict I h hk
  refine call_meetsIn PySem.F.slot_dict_get (ld_typeIs I h) PySem.F.entry_dict_get (PySem.F.args_dict_get_3 _ _ _) (meetsH_dict_get_default (LK X.prog X.w) d a hd r) ⟨tupleKind_room_in1 hu, lkey l, xs, lit_key I ha, dd, q _ _ (I.tok _) ?_⟩
  exact (lkV_rel rel l).getD rz
theorem pe_lget2 (P : Program) (w : World) (K : PySem.W.Frag) (hu : X.A.units + 1 < cLine) (ho : PE X o td) (he : PE X e ty) (hf : PE X f tx) (m : M2 X o "get" apos e f cpos) (hP : X.prog = P := by rfl) (hw : X.w = w := by rfl) (hK : X.K = K := by rfl) : PE X (.Call (.Attribute o "get" apos) [e, f] [] cpos) (tLGet2 P w K td ty tx) := by
  subst hP hw hK
  refine ⟨fun pins s σ H Q I h => ?_⟩
  refine wpAny_Call_method m.base m.few m.line PySem.F.plainAttrs_dict PySem.F.slot_dict_get PySem.F.type_dict_get (thn (ho.run pins s σ H _ I h) fun u s1 ⟨x, H1, I1, rx, d, kvs0, ex, g0, q1⟩ => ?_)
  subst ex
  obtain rfl : u = Value.ref d := rx
  refine ⟨ld_typeIs I1 g0, ld_noDict I1 g0, ?_⟩
  rw [m.trees]
  refine Calls.callWith_builtin rfl (Calls.evalArgs_plain (Calls.spliced_cons (thn (he.run pins s1 σ H1 _ I1 q1) fun iv s2 ⟨y, H2, I2, ry, q2⟩ =>
    Calls.spliced_cons (thn (hf.run pins s2 σ H2 _ I2 q2) fun fv s3 ⟨z, H3, I3, rz, kvs, l, rl, g, q3⟩ => Calls.spliced_nil ?_))))
  obtain ⟨a, rfl, ha⟩ := litB rl
  obtain rfl : iv = Value.ref a := ry
  exact l_get2 hu I3 g.1 g.2 ha rz fun w' s4 I4 rw' => ⟨_, H3, I4, rw', q3⟩
end
/-! ### a dict display with one pair; a new empty dict -/
theorem ld_empty {P : Program} {w : World} {H : Hp} (h : Heap) (hb : sysModules < h.objs.size) : ObjOk P w H (h.push { cls := .type "dict", data := .dict #[] }) h.objs.size (LD P w h.objs.size []) :=
  ld_new ⟨Nat.zero_le _, beq_eq_false_iff_ne.mpr (Ne.symm (Nat.ne_of_lt hb)), [], .nil, _, #[], 0, Heap.get?_push_size _ rfl, ⟨rfl, rfl, rfl⟩, rfl, rfl, List.nodup_nil⟩
def tLNew (P : Program) (w : World) : TE := fun _ H Q => ∀ p, H p = none → Q (.ref p) (upd H p (LD P w p []))
theorem pe_lnew (P : Program) (w : World) {X : Cx} {pos : Pos} (hP : X.prog = P := by rfl) (hw : X.w = w := by rfl) : PE X (.Dict [] [] pos) (tLNew P w) := by
  subst hP hw
  exact ⟨fun pins s σ H Q I h => wpAny_Dict_empty ⟨.ref s.heap.objs.size, _, I.laid (a := s.heap.objs.size) (o := LD X.prog X.w s.heap.objs.size []) (t' := s.toks) (fun _ _ q => Heap.get?_push_of_some _ q) (Nat.le_refl _) (ld_empty s.heap I.big), rfl, h _ (I.hok.fresh (Nat.le_refl _))⟩⟩
end K19

/-! ## K19N -/
set_option Elab.async false
set_option linter.all false
set_option maxRecDepth 100000
set_option maxHeartbeats 4000000
namespace K19
open PySem PySem.Spec PyProof.Rows L2 Evl
/-! ### dict comprehensions whose keys are literals (statements and proofs follow HandS.DictComp's and HandS.Comp's) -/
theorem l_dictSet {X : Cx} {pins : List (Addr × Obj)} {σ : L2.St} {H : Hp} {s : Shared} {E : Value → Shared → Prop} {D a : Addr} {kvs : List Ent} {l : Lit} {v : V} {r : Value} {Q : Unit → Shared → Prop} (hu : X.A.units + 1 < cLine) (I : Inv X pins σ H s) (ha : SqT X.K H a [.str l.1, .bl l.2]) (hD : H D = some (LD X.prog X.w D kvs)) (hk : LKs X.K H kvs) (hl : kvs.length < sizeLine)
    (rv : RelV v r) (q : ∀ s', Inv X pins σ (upd H D (LD X.prog X.w D (lput kvs l a v))) s' → Q () s') : wpAny (model X.prog X.w) X.A (dictSet D (.ref a) r) Q E s := by
  obtain ⟨z, hd, xs, rr, dd⟩ := ld_dict I (.inl hD) hk
  have hz : xs.length ≤ sizeLine := by rw [← Paired.length rr]; exact z
  have hl' : (lput kvs l a v).length ≤ sizeLine := by have := lput_len kvs l a v; omega
  refine wpAny_dictSet_heap (hsz := hz) (show (LK X.prog X.w).room X.A from Nat.lt_of_succ_lt hu) (lit_key I ha) dd fun h' dd' hs => q _ ?_
  obtain ⟨o, es, ep, hq, h2, h3, h4, _, h5⟩ := dd'
  exact d_write I (by rw [hD]; exact ld_mut) hs ⟨o, hq⟩ (ld_new ⟨hl', hd, _, lput_rel rr l a rv, o, es, ep, hq, h2, h3, h4, h5⟩)
def tLDc (P : Program) (w : World) (K : PySem.W.Frag) (wi : TI) (g : TG) (tt : TT) (tk tv : TE) (vs : List Nat) : TE := fun σ H Q => wi σ H fun J H1 => ∀ D, H1 D = none → ∃ W : Nat → Nat → Hp → Prop, (∃ m, W 0 m (upd H1 D (LD P w D []))) ∧ ∀ i m H, W i m H →
  (J.stop i H ∧ Q (.ref D) H) ∨ (J.go i H ∧ ∃ Nx : Hp → Prop, (∀ H', Nx H' → ∃ m', m' < m ∧ W (i + 1) m' H') ∧ ∀ x H', J.yld i H x H' → g x (wipe σ vs) H' fun σ2 H2 => wipe σ2 vs = wipe σ vs ∧ tt σ2 H2 fun b H3 =>
    if b = true then tk σ2 H3 fun y H4 => tv σ2 H4 fun z H5 => ∃ kvs l a, y = .ref a ∧ SqT K H5 a [.str l.1, .bl l.2] ∧ H5 D = some (LD P w D kvs) ∧ LKs K H5 kvs ∧ kvs.length < sizeLine ∧ Nx (upd H5 D (LD P w D (lput kvs l a z))) else Nx H3)
def tLDc2 (P : Program) (w : World) (K : PySem.W.Frag) (wi : TI) (g : TG) (tt : TT) (wi1 : TI) (g1 : TG) (tt1 : TT) (tk tv : TE) (vs vs1 : List Nat) : TE := fun σ H Q => wi σ H fun J H1 => ∀ D, H1 D = none → ∃ W : Nat → Nat → Hp → Prop, (∃ m, W 0 m (upd H1 D (LD P w D []))) ∧ ∀ i m H, W i m H →
  (J.stop i H ∧ Q (.ref D) H) ∨ (J.go i H ∧ ∃ Nx : Hp → Prop, (∀ H', Nx H' → ∃ m', m' < m ∧ W (i + 1) m' H') ∧ ∀ x H', J.yld i H x H' → g x (wipe σ vs) H' fun σ2 H2 => wipe σ2 vs = wipe σ vs ∧ tt σ2 H2 fun b H3 =>
    if b = true then wi1 σ2 H3 fun J1 H4 => ∃ W1 : Nat → Nat → Hp → Prop, (∃ m, W1 0 m H4) ∧ ∀ j k H, W1 j k H →
      (J1.stop j H ∧ Nx H) ∨ (J1.go j H ∧ ∃ Nx1 : Hp → Prop, (∀ H', Nx1 H' → ∃ k', k' < k ∧ W1 (j + 1) k' H') ∧ ∀ x H', J1.yld j H x H' → g1 x (wipe σ2 vs1) H' fun σ3 H5 => wipe σ3 vs1 = wipe σ2 vs1 ∧ tt1 σ3 H5 fun b H6 =>
        if b = true then tk σ3 H6 fun y H7 => tv σ3 H7 fun z H8 => ∃ kvs l a, y = .ref a ∧ SqT K H8 a [.str l.1, .bl l.2] ∧ H8 D = some (LD P w D kvs) ∧ LKs K H8 kvs ∧ kvs.length < sizeLine ∧ Nx1 (upd H8 D (LD P w D (lput kvs l a z))) else Nx1 H6)
    else Nx H3)
theorem dcTurn2_out (kx vx t0 i0 t1 i1 : Expr) (ifs0 ifs1 : List Expr) (scope : Scope) (pos : Pos) (it : Value) (D : Addr) (env : Env) :
    compTurn (.DictComp kx vx [⟨t0, i0, ifs0, 0⟩, ⟨t1, i1, ifs1, 0⟩] scope pos) 0 it (.ref D) env = (do
      standAt i0.pos
      match ← pyNext it with
      | none => pure (.done .next)
      | some v =>
        letOwnedTupleGo t0 it v
        assign t0 env v
        let mut ok := true
        for c in ifs0 do
          if ok then ok ← isTrue c env (eval c env)
        if ok then
          let x ← eval i1 env
          standAt i1.pos
          let x ← foldedSetIterable i1 env x
          let _ ← runOwn (.compStart (.DictComp kx vx [⟨t0, i0, ifs0, 0⟩, ⟨t1, i1, ifs1, 0⟩] scope pos) 1 (← holding [x] (pyIter x)) (.ref D) env) env
        again (.compLoop (.DictComp kx vx [⟨t0, i0, ifs0, 0⟩, ⟨t1, i1, ifs1, 0⟩] scope pos) 0 it (.ref D) env)) := by rfl
theorem dcTurn2_in (kx vx t0 i0 t1 i1 : Expr) (ifs0 ifs1 : List Expr) (scope : Scope) (pos : Pos) (it : Value) (D : Addr) (env : Env) :
    compTurn (.DictComp kx vx [⟨t0, i0, ifs0, 0⟩, ⟨t1, i1, ifs1, 0⟩] scope pos) 1 it (.ref D) env = (do
      standAt i1.pos
      match ← pyNext it with
      | none => pure (.done .next)
      | some v =>
        letOwnedTupleGo t1 it v
        assign t1 env v
        let mut ok := true
        for c in ifs1 do
          if ok then ok ← isTrue c env (eval c env)
        if ok then
          (do
            let kv ← eval kx env
            let vv ← holding [kv] (eval vx env)
            standAt { kx.pos with endLine := vx.pos.endLine, endCol := vx.pos.endCol }
            holding [kv, vv] (dictSet D kv vv))
        again (.compLoop (.DictComp kx vx [⟨t0, i0, ifs0, 0⟩, ⟨t1, i1, ifs1, 0⟩] scope pos) 1 it (.ref D) env)) := by rfl

section
variable {prog : Program} {w : World} {A : Around} {R : Result → Shared → Prop} {s : Shared} {kx vx t0 i0 t1 i1 : Expr} {ifs0 ifs1 : List Expr} {scope : Scope} {pos : Pos} {it : Value} {D : Addr} {env : Env}
/-- the loop of the first clause -/
theorem dcLoop2_out (hs : ∀ x, foldedSetIterable i1 env x = pure x) (I : Nat → Shared → Prop)
    (turn : ∀ n s, I n s → wpAny (model prog w) A (pyNext it) (fun r s₁ => match r with
      | none => R (.ok .next) s₁
      | some v => wpAny (model prog w) A (letOwnedTupleGo t0 it v) (fun _ s₁' => wpAny (model prog w) A (assign t0 env v) (fun _ s₂ =>
          wpAny (model prog w) A (forIn ifs0 true fun c r => if r = true then do let ok ← isTrue c env (eval c env); pure (ForInStep.yield ok) else pure (ForInStep.yield r)) (fun ok s₃ =>
            if ok = true then wpAny (model prog w) A (eval i1 env) (fun x s₄ => wpAny (model prog w) A (pyIter x) (fun it1 s₅ =>
              codeAny (model prog w) A (.compStart (.DictComp kx vx [⟨t0, i0, ifs0, 0⟩, ⟨t1, i1, ifs1, 0⟩] scope pos) 1 it1 (.ref D) env) (fun r s' => match r with
                | .ok _ => ∃ m, m < n ∧ I m s'
                | .error _ => False) s₅) (notedBy (model prog w) A env fun e s' => R (.error e) s') s₄) (notedBy (model prog w) A env fun e s' => R (.error e) s') s₃
            else ∃ m, m < n ∧ I m s₃) (notedBy (model prog w) A env fun e s' => R (.error e) s') s₂) (notedBy (model prog w) A env fun e s' => R (.error e) s') s₁') (notedBy (model prog w) A env fun e s' => R (.error e) s') s₁) (notedBy (model prog w) A env fun e s' => R (.error e) s') s)
    (n : Nat) (h : I n s) :
    codeAny (model prog w) A (.compLoop (.DictComp kx vx [⟨t0, i0, ifs0, 0⟩, ⟨t1, i1, ifs1, 0⟩] scope pos) 0 it (.ref D) env) R s := by
  refine codeAny_loop rfl I (fun n s hI => ?_) n h
  show wpAny _ A ((compTurn (.DictComp kx vx [⟨t0, i0, ifs0, 0⟩, ⟨t1, i1, ifs1, 0⟩] scope pos) 0 it (.ref D) env).onRaise (fun x => do noteFrame x env; theTreesLotGoes x)) _ _ s
  refine wpAny_noted ?_
  rw [dcTurn2_out]
  refine wpAny_bind (wpAny_standAt (wpAny_bind (wpAny_mono (turn n s hI) (fun r s₁ h₁ => ?_) fun _ _ h' => h')))
  cases r with
  | none => exact wpAny_pure h₁
  | some v =>
    refine wpAny_bind (wpAny_mono h₁ (fun _ s₁' h₁' => ?_) fun _ _ h' => h')
    refine wpAny_bind (wpAny_mono h₁' (fun _ s₂ h₂ => wpAny_bind (wpAny_mono h₂ (fun ok s₃ h₃ => ?_) fun _ _ h' => h')) fun _ _ h' => h')
    cases ok with
    | false => exact wpAny_pure ⟨rfl, h₃⟩
    | true =>
      refine wpAny_bind (wpAny_mono h₃ (fun x s₄ h₄ => ?_) fun _ _ h' => h')
      refine wpAny_bind (wpAny_standAt (wpAny_bind (wpAny_of_eq (hs x) (wpAny_bind (wpAny_holding (wpAny_mono h₄ (fun it1 s₅ h₅ => ?_) fun _ _ h' => h'))))))
      refine wpAny_bind (wpAny_runOwn ?_)
      rw [Around.mark_none]
      refine codeAny_mono h₅ fun r s' hr => ?_
      cases r with
      | ok f =>
        first
          | exact wpAny_pure ⟨rfl, hr⟩
          | exact wpAny_bind (wpAny_pure (wpAny_pure ⟨rfl, hr⟩))
      | error e => exact hr.elim
/-- the loop of the second -/
theorem dcLoop2_in (I : Nat → Shared → Prop)
    (turn : ∀ n s, I n s → wpAny (model prog w) A (pyNext it) (fun r s₁ => match r with
      | none => R (.ok .next) s₁
      | some v => wpAny (model prog w) A (letOwnedTupleGo t1 it v) (fun _ s₁' => wpAny (model prog w) A (assign t1 env v) (fun _ s₂ =>
          wpAny (model prog w) A (forIn ifs1 true fun c r => if r = true then do let ok ← isTrue c env (eval c env); pure (ForInStep.yield ok) else pure (ForInStep.yield r)) (fun ok s₃ =>
            if ok = true then wpAny (model prog w) A (eval kx env) (fun kv s₄ => wpAny (model prog w) A (eval vx env) (fun vv s₅ =>
              wpAny (model prog w) A (dictSet D kv vv) (fun _ s₆ => ∃ m, m < n ∧ I m s₆) (notedBy (model prog w) A env fun e s' => R (.error e) s') s₅) (notedBy (model prog w) A env fun e s' => R (.error e) s') s₄) (notedBy (model prog w) A env fun e s' => R (.error e) s') s₃
            else ∃ m, m < n ∧ I m s₃) (notedBy (model prog w) A env fun e s' => R (.error e) s') s₂) (notedBy (model prog w) A env fun e s' => R (.error e) s') s₁') (notedBy (model prog w) A env fun e s' => R (.error e) s') s₁) (notedBy (model prog w) A env fun e s' => R (.error e) s') s)
    (n : Nat) (h : I n s) :
    codeAny (model prog w) A (.compLoop (.DictComp kx vx [⟨t0, i0, ifs0, 0⟩, ⟨t1, i1, ifs1, 0⟩] scope pos) 1 it (.ref D) env) R s := by
  refine codeAny_loop rfl I (fun n s hI => ?_) n h
  show wpAny _ A ((compTurn (.DictComp kx vx [⟨t0, i0, ifs0, 0⟩, ⟨t1, i1, ifs1, 0⟩] scope pos) 1 it (.ref D) env).onRaise (fun x => do noteFrame x env; theTreesLotGoes x)) _ _ s
  refine wpAny_noted ?_
  rw [dcTurn2_in]
  refine wpAny_bind (wpAny_standAt (wpAny_bind (wpAny_mono (turn n s hI) (fun r s₁ h₁ => ?_) fun _ _ h' => h')))
  cases r with
  | none => exact wpAny_pure h₁
  | some v =>
    refine wpAny_bind (wpAny_mono h₁ (fun _ s₁' h₁' => ?_) fun _ _ h' => h')
    refine wpAny_bind (wpAny_mono h₁' (fun _ s₂ h₂ => wpAny_bind (wpAny_mono h₂ (fun ok s₃ h₃ => ?_) fun _ _ h' => h')) fun _ _ h' => h')
    cases ok with
    | false => exact wpAny_pure ⟨rfl, h₃⟩
    | true =>
      exact wpAny_bind (wpAny_bind (wpAny_mono h₃ (fun kv s₄ h₄ => wpAny_bind (wpAny_holding (wpAny_mono h₄ (fun vv s₅ h₅ => wpAny_bind (wpAny_standAt (wpAny_holding (wpAny_mono h₅ (fun _ s₆ h₆ => wpAny_pure ⟨rfl, h₆⟩) fun _ _ h' => h')))) fun _ _ h' => h'))) fun _ _ h' => h'))
/-- the second clause's start -/
theorem dcStart1_ok (h0 : codeAny (model prog w) A (.compLoop (.DictComp kx vx [⟨t0, i0, ifs0, 0⟩, ⟨t1, i1, ifs1, 0⟩] scope pos) 1 it (.ref D) env) R s)
    (h : wpAny (model prog w) A (pyIter it) (fun it' s' => codeAny (model prog w) A (.compLoop (.DictComp kx vx [⟨t0, i0, ifs0, 0⟩, ⟨t1, i1, ifs1, 0⟩] scope pos) 1 it' (.ref D) env) R s')
      (notedBy (model prog w) A env fun x s' => R (.error x) s') s) :
    codeAny (model prog w) A (.compStart (.DictComp kx vx [⟨t0, i0, ifs0, 0⟩, ⟨t1, i1, ifs1, 0⟩] scope pos) 1 it (.ref D) env) R s := by
  refine codeAny_of_tree ?_
  show wpAny _ _ ((compStart (.DictComp kx vx [⟨t0, i0, ifs0, 0⟩, ⟨t1, i1, ifs1, 0⟩] scope pos) 1 it (.ref D) env).onRaise (fun x => do noteFrame x env; standAt theWindowsPlace)) _ _ s
  refine wpAny_notedAt ?_
  unfold compStart
  show wpAny _ _ (ask >>= _) _ _ s
  refine wpAny_bind (wpAny_askSetting (wpAny_ite ?_))
  split
  · first
      | exact wpAny_bind (wpAny_pure (wpAny_pure (And.intro rfl h0)))
      | exact wpAny_pure (And.intro rfl h0)
  · first
      | exact wpAny_bind (wpAny_rule (wpAny_bind (wpAny_standAt (wpAny_bind (wpAny_mono h (fun it' s' h' => wpAny_pure (And.intro rfl h')) fun _ _ x => x)))))
      | (refine wpAny_bind (wpAny_rule ?_); show wpAny _ _ (standAt i1.pos >>= _) _ _ s; exact wpAny_bind (wpAny_standAt (wpAny_bind (wpAny_mono h (fun it' s' h' => wpAny_pure (And.intro rfl h')) fun _ _ x => x))))
end

section
variable {X : Cx}
theorem ldc_core {pins : List (Addr × Obj)} {s : Shared} {σ : L2.St} {H : Hp} {Q : VK} {kx vx tg iter : Expr} {ifs : List Expr} {scope : Scope} {own : List (Str × Nat)} {pos pos' : Pos} {wi : TI} {g : TG} {tt : TT} {tk tv : TE} {use : Option (Value → Sem Unit)} {Qf : Value → Shared → Prop}
    (hu : X.A.units + 1 < cLine) (hc : X.calm = true) (hN : X.N.Nodup) (I : Inv X pins σ H s) (hi : PI X tg iter wi) (ok : BlkOk X.N X.env.scope scope own)
    (hg : ∀ (s : Shared) (H : Hp) (C : Addr) (cl : List (Str × Addr)) (fp : List Addr), PG (X.blk s H scope (compEnvC scope cl C X.env) fp) tg g) (ht : ∀ (s : Shared) (H : Hp) (C : Addr) (cl : List (Str × Addr)) (fp : List Addr), PTs (X.blk s H scope (compEnvC scope cl C X.env) fp) ifs tt)
    (hk : ∀ (s : Shared) (H : Hp) (C : Addr) (cl : List (Str × Addr)) (fp : List Addr), PE (X.blk s H scope (compEnvC scope cl C X.env) fp) kx tk)
    (he : ∀ (s : Shared) (H : Hp) (C : Addr) (cl : List (Str × Addr)) (fp : List Addr), PE (X.blk s H scope (compEnvC scope cl C X.env) fp) vx tv) (hs : ∀ x, foldedSetIterable iter X.env x = pure x)
    (h : tLDc X.prog X.w X.K wi g tt tk tv (own.map (·.2)) σ H Q)
    (hRR : ∀ D C s' m H', Inv X pins σ H' s' → Q (.ref D) H' → s'.heap.Ns C m → FpOk X pins H' C → compPost (model X.prog X.w) X.A X.xe use Qf (.ref D) C (.ok .next) s') :
    wpAny (model X.prog X.w) X.A (comprehension (.DictComp kx vx [⟨tg, iter, ifs, 0⟩] scope pos) scope X.env pos' newDict false (eval iter X.env) use) Qf X.xe s := by
  have hfree : ∀ y ∈ scope.names, y.2 = .free → ∃ c, X.env.cells.lookup y.1 = some c := fun y hy e => by
    rcases ok.free y hy e with k | k
    · exact I.ok.has _ (.inl k)
    · exact I.ok.has _ (.inr k)
  refine wpAny_comprehension_free (use := use) rfl hs (closure_ok hfree) ok.kind (fun y hy e => by rw [ok.uniq y hy, e])
    (thn (hi.run pins s σ H _ I h) fun xv s1 hx => thn hx fun itv s2 h2 => ?_)
  obtain ⟨it, fp, tn, J, H2, e, I2, T, st2, f2, q⟩ := h2
  subst e
  refine wpAny_newObj_type (newEnv_comp ?_)
  generalize hD : s2.heap.objs.size = D
  have hDn : H2 D = none := I2.hok.fresh (Nat.le_of_eq hD)
  obtain ⟨W, ⟨m0, w0⟩, turn⟩ := q D hDn
  -- the new list
  generalize hs3 : ({ s2 with heap := s2.heap.push { cls := .type "dict", data := .dict #[] } } : Shared) = s3
  have I3 : Inv X pins σ (upd H2 D (LD X.prog X.w D [])) s3 := by
    rw [← hs3]
    refine I2.laid (t' := s2.toks) (fun b o e => Heap.get?_push_of_some _ e) (Nat.le_of_eq hD) ?_
    rw [← hD]
    exact ld_empty s2.heap I2.big
  have h3 : s3.heap = s2.heap.push { cls := .type "dict", data := .dict #[] } := by rw [← hs3]
  have sz : ∀ b ∈ fp, b < s2.heap.objs.size := fun b hb => by
    obtain ⟨o, e, _⟩ := T.obj _ _ st2 b hb
    exact Heap.lt_size e
  have f3 : ∀ b ∈ fp, FpOk X pins (upd H2 D (LD X.prog X.w D [])) b ∧ b < s3.heap.objs.size := fun b hb => by
    have hlt := sz b hb
    refine ⟨⟨?_, (f2 b hb).2⟩, by rw [h3, Heap.size_push]; exact Nat.lt_succ_of_lt hlt⟩
    rw [upd_ne (by rw [← hD]; exact Nat.ne_of_lt hlt)]
    exact (f2 b hb).1
  have st3 : tn 0 s3.heap := T.keep _ _ _ st2 fun b _ o e => by rw [h3]; exact Heap.get?_push_of_some _ e
  have I4 := block_start I3 ok hN f3
  have pg := hg s3 (upd H2 D (LD X.prog X.w D [])) s3.heap.objs.size (cellsFrom (s3.heap.objs.size + 1) scope.names (cloFrom X.env.cells scope.names [])) fp
  have pt := ht s3 (upd H2 D (LD X.prog X.w D [])) s3.heap.objs.size (cellsFrom (s3.heap.objs.size + 1) scope.names (cloFrom X.env.cells scope.names [])) fp
  have pk := hk s3 (upd H2 D (LD X.prog X.w D [])) s3.heap.objs.size (cellsFrom (s3.heap.objs.size + 1) scope.names (cloFrom X.env.cells scope.names [])) fp
  have pe := he s3 (upd H2 D (LD X.prog X.w D [])) s3.heap.objs.size (cellsFrom (s3.heap.objs.size + 1) scope.names (cloFrom X.env.cells scope.names [])) fp
  show codeAny _ _ (.compStart (.DictComp kx vx [⟨tg, iter, ifs, 0⟩] scope pos) 0 (.ref it) (.ref D) (compEnvC scope (cellsFrom (s3.heap.objs.size + 1) scope.names (cloFrom X.env.cells scope.names [])) s3.heap.objs.size X.env)) (compPost (model X.prog X.w) X.A X.xe use Qf (.ref D) s3.heap.objs.size) { s3 with heap := pushCells (s3.heap.push { cls := .type "dict", data := .dict #[] }) scope.names }
  have nfp : ∀ b ∈ fp, (upd H2 D (LD X.prog X.w D [])) b = none := fun b hb => (f3 b hb).1.1
  generalize hce : compEnvC scope (cellsFrom (s3.heap.objs.size + 1) scope.names (cloFrom X.env.cells scope.names [])) s3.heap.objs.size X.env = ce at I4 pg pt pk pe ⊢
  have cL : ce.locals = s3.heap.objs.size := by subst hce; rfl
  generalize hH3 : upd H2 D (LD X.prog X.w D []) = H3 at I3 I4 pg pt pk pe w0 nfp f3
  generalize hs4 : ({ s3 with heap := pushCells (s3.heap.push { cls := .type "dict", data := .dict #[] }) scope.names } : Shared) = s4 at I4 ⊢
  have st4 : tn 0 s4.heap := T.keep _ _ _ st3 fun b _ o e => by rw [← hs4]; exact pushCells_keeps _ _ _ _ (Heap.get?_push_of_some _ e)
  have stat : ∀ {σ' : L2.St} {H' : Hp} {s' : Shared}, Inv (X.blk s3 H3 scope ce fp) [] σ' H' s' → (∀ b ∈ fp, H' b = none) → ∀ b ∈ fp, FpOk (X.blk s3 H3 scope ce fp) [] H' b := fun {σ' H' s'} I' hn b hb =>
    ⟨hn b hb, (I'.ok.exf b hb).1, I'.ok.exfs b hb, .inl hb, fun x c e => (I'.ok.exf b hb).2 x c e, fun p hp => absurd (show p ∈ ([] : List (Addr × Obj)) ++ [] from hp) (by simp)⟩
  have loop : codeAny (model X.prog X.w) X.A (.compLoop (.DictComp kx vx [⟨tg, iter, ifs, 0⟩] scope pos) 0 (.ref it) (.ref D) ce) (compPost (model X.prog X.w) X.A X.xe use Qf (.ref D) s3.heap.objs.size) s4 := by
    refine compLoop_anyD (fun n s' => ∃ i H', Inv (X.blk s3 H3 scope ce fp) [] (wipe σ (own.map (·.2))) H' s' ∧ tn i s'.heap ∧ (∀ b ∈ fp, H' b = none) ∧ W i n H') ?_ m0 ⟨0, H3, I4, st4, nfp, w0⟩
    rintro n s5 ⟨i, H5, I5, st5, n5, w5⟩
    rcases turn i n H5 w5 with ⟨stop, qq⟩ | ⟨go, Nx, hNx, step⟩
    · have td := T.done (X.blk s3 H3 scope ce fp) rfl rfl rfl hc i [] s5 _ H5 (fun _ _ => False) I5 (stat I5 n5) st5 stop
      refine thnF td fun r s6 ⟨hr, I6⟩ => ?_
      subst hr
      -- back in the def's context
      have I7 : Inv X pins σ H5 s6 := I3.call' (ch := fp) I6.os I6.base I6.hok I6.bare fun b hb => ⟨(f3 b hb).1.2.2.2.1, (f3 b hb).1.2.1, (f3 b hb).1.2.2.2.2.1, (f3 b hb).1.2.2.2.2.2⟩
      have nC : H5 s3.heap.objs.size = none := by
        have z : H5 ce.locals = none := I6.free
        rw [cL] at z
        exact z
      obtain ⟨m, hn, _⟩ := I6.loc
      have hn : s6.heap.Ns ce.locals m := hn
      rw [cL] at hn
      exact hRR D s3.heap.objs.size s6 m H5 I7 qq hn (I3.fpOk (Nat.le_refl _) nC)
    · have ti := T.item (X.blk s3 H3 scope ce fp) rfl rfl rfl hc i [] s5 _ H5 (fun _ _ => False) I5 (stat I5 n5) st5 go
      refine thnF ti fun r s6 ⟨u, hr, h6⟩ => ?_
      subst hr
      refine thnF h6 fun _ s7 ⟨x, H7, I7, r7, y7, st7, n7⟩ => ?_
      have I7' := I7.pinned (stat I7 n7) (T.obj _ _ st7)
      refine thnF (pg.run _ s7 _ H7 x u _ I7' r7 (step x H7 y7)) fun _ s8 ⟨σ8, H8, I8, hw8, q8⟩ => ?_
      refine thnF (pt.run _ s8 σ8 H8 _ I8 q8) fun b s9 ⟨H9, I9, q9⟩ => ?_
      -- the turn's end
      have fin : ∀ {s' : Shared} {H' : Hp}, Inv (X.blk s3 H3 scope ce fp) ([] ++ pinsAt fp s7.heap) σ8 H' s' → Nx H' → ∃ m, m < n ∧ ∃ i H', Inv (X.blk s3 H3 scope ce fp) [] (wipe σ (own.map (·.2))) H' s' ∧ tn i s'.heap ∧ (∀ b ∈ fp, H' b = none) ∧ W i m H' := fun {s' H'} I' nx => by
        obtain ⟨m', hm, w'⟩ := hNx H' nx
        have pin' : ∀ b ∈ fp, ∀ o, s7.heap.get? b = some o → s'.heap.get? b = some o ∧ H' b = none := fun b hb o e =>
          let z := I'.pin (b, o) (List.mem_append_right _ (List.mem_append_right _ (mem_pinsAt hb e)))
          ⟨z.1, z.2.1⟩
        have hl : (wipe σ (own.map (·.2))).length = σ8.length := by rw [← hw8, wipe_length]
        refine ⟨m', hm, i + 1, H', (I'.unpinned (pins := [])).weak hl (fun j v e => ?_), T.keep _ _ _ st7 fun b hb o e => (pin' b hb o e).1, fun b hb => ?_, w'⟩
        · rw [← hw8] at e
          exact (wipe_some e).1
        · obtain ⟨o, e, _⟩ := T.obj _ _ st7 b hb
          exact (pin' b hb o e).2
      cases b with
      | false =>
        simp only [Bool.false_eq_true, if_false] at q9 ⊢
        exact fin I9 q9
      | true =>
        simp only [if_true] at q9 ⊢
        refine thnF (pk.run _ s9 σ8 H9 _ I9 q9) fun z s10 ⟨yk, H10, I10, r10, q10⟩ => ?_
        refine thnF (pe.run _ s10 σ8 H10 _ I10 q10) fun z2 s11 ⟨yv, H11, I11, r11, kvs, l, ad, ek, hak, hD11, hlk, hz11, nx⟩ => ?_
        subst ek
        cases (show z = Value.ref ad from r10)
        exact l_dictSet (X := X.blk s3 H3 scope ce fp) hu I11 hak hD11 hlk hz11 r11 fun s12 I12 => fin I12 nx
  exact codeAny_compStart_dict loop (T.self X.A 0 _ _ _ st4 loop)
theorem pe_ldc {kx vx tg iter : Expr} {ifs : List Expr} {scope : Scope} {own : List (Str × Nat)} {pos : Pos} {wi : TI} {g : TG} {tt : TT} {tk tv : TE} (hu : X.A.units + 1 < cLine) (hc : X.calm = true) (hN : X.N.Nodup) (hi : PI X tg iter wi) (ok : BlkOk X.N X.env.scope scope own)
    (hg : ∀ (s : Shared) (H : Hp) (C : Addr) (cl : List (Str × Addr)) (fp : List Addr), PG (X.blk s H scope (compEnvC scope cl C X.env) fp) tg g) (ht : ∀ (s : Shared) (H : Hp) (C : Addr) (cl : List (Str × Addr)) (fp : List Addr), PTs (X.blk s H scope (compEnvC scope cl C X.env) fp) ifs tt)
    (hk : ∀ (s : Shared) (H : Hp) (C : Addr) (cl : List (Str × Addr)) (fp : List Addr), PE (X.blk s H scope (compEnvC scope cl C X.env) fp) kx tk)
    (he : ∀ (s : Shared) (H : Hp) (C : Addr) (cl : List (Str × Addr)) (fp : List Addr), PE (X.blk s H scope (compEnvC scope cl C X.env) fp) vx tv) (hs : ∀ x, foldedSetIterable iter X.env x = pure x := by intro _; rfl) :
    PE X (.DictComp kx vx [⟨tg, iter, ifs, 0⟩] scope pos) (tLDc X.prog X.w X.K wi g tt tk tv (own.map (·.2))) := by
  refine ⟨fun pins s σ H Q I h => ?_⟩
  rw [arm_eval_DictComp]
  refine ldc_core hu hc hN I hi ok hg ht hk he hs h fun D C s' m H' I' q hn f => ⟨m, hn, fun h'' sb => ?_⟩
  obtain ⟨f0, f1, f2, f3, f4, f5⟩ := f
  exact ⟨.ref D, H', I'.turned (t' := s'.toks) (fun b o hb e => (sb.2 b hb).trans e) f0 f1 f3 f4 f5, rfl, q⟩
theorem ldc2_core {pins : List (Addr × Obj)} {s : Shared} {σ : L2.St} {H : Hp} {Q : VK} {kx vx tg iter tg1 iter1 : Expr} {ifs ifs1 : List Expr} {scope : Scope} {own : List (Str × Nat)} {vs1 : List Nat} {pos pos' : Pos} {wi wi1 : TI} {g g1 : TG} {tt tt1 : TT} {tk tv : TE} {use : Option (Value → Sem Unit)} {Qf : Value → Shared → Prop}
    (hu : X.A.units + 1 < cLine) (hc : X.calm = true) (hN : X.N.Nodup) (I : Inv X pins σ H s) (hi : PI X tg iter wi) (ok : BlkOk X.N X.env.scope scope own) (hv : ∀ i ∈ vs1, i ∈ own.map (·.2))
    (hg : ∀ (s : Shared) (H : Hp) (C : Addr) (cl : List (Str × Addr)) (fp : List Addr), PG (X.blk s H scope (compEnvC scope cl C X.env) fp) tg g) (ht : ∀ (s : Shared) (H : Hp) (C : Addr) (cl : List (Str × Addr)) (fp : List Addr), PTs (X.blk s H scope (compEnvC scope cl C X.env) fp) ifs tt)
    (hk : ∀ (s : Shared) (H : Hp) (C : Addr) (cl : List (Str × Addr)) (fp : List Addr), PE (X.blk s H scope (compEnvC scope cl C X.env) fp) kx tk)
    (he : ∀ (s : Shared) (H : Hp) (C : Addr) (cl : List (Str × Addr)) (fp : List Addr), PE (X.blk s H scope (compEnvC scope cl C X.env) fp) vx tv) (hs : ∀ x, foldedSetIterable iter X.env x = pure x)
    (hi1 : ∀ (s : Shared) (H : Hp) (C : Addr) (cl : List (Str × Addr)) (fp : List Addr), PI (X.blk s H scope (compEnvC scope cl C X.env) fp) tg1 iter1 wi1)
    (hg1 : ∀ (s : Shared) (H : Hp) (C : Addr) (cl : List (Str × Addr)) (fp : List Addr), PG (X.blk s H scope (compEnvC scope cl C X.env) fp) tg1 g1)
    (ht1 : ∀ (s : Shared) (H : Hp) (C : Addr) (cl : List (Str × Addr)) (fp : List Addr), PTs (X.blk s H scope (compEnvC scope cl C X.env) fp) ifs1 tt1)
    (hs1 : ∀ env x, foldedSetIterable iter1 env x = pure x)
    (h : tLDc2 X.prog X.w X.K wi g tt wi1 g1 tt1 tk tv (own.map (·.2)) vs1 σ H Q)
    (hRR : ∀ D C s' m H', Inv X pins σ H' s' → Q (.ref D) H' → s'.heap.Ns C m → FpOk X pins H' C → compPost (model X.prog X.w) X.A X.xe use Qf (.ref D) C (.ok .next) s') :
    wpAny (model X.prog X.w) X.A (comprehension (.DictComp kx vx [⟨tg, iter, ifs, 0⟩, ⟨tg1, iter1, ifs1, 0⟩] scope pos) scope X.env pos' newDict false (eval iter X.env) use) Qf X.xe s := by
  have hfree : ∀ y ∈ scope.names, y.2 = .free → ∃ c, X.env.cells.lookup y.1 = some c := fun y hy e => by
    rcases ok.free y hy e with k | k
    · exact I.ok.has _ (.inl k)
    · exact I.ok.has _ (.inr k)
  refine wpAny_comprehension_free (use := use) rfl hs (closure_ok hfree) ok.kind (fun y hy e => by rw [ok.uniq y hy, e])
    (thn (hi.run pins s σ H _ I h) fun xv s1 hx => thn hx fun itv s2 h2 => ?_)
  obtain ⟨it, fp, tn, J, H2, e, I2, T, st2, f2, q⟩ := h2
  subst e
  refine wpAny_newObj_type (newEnv_comp ?_)
  generalize hD : s2.heap.objs.size = D
  have hDn : H2 D = none := I2.hok.fresh (Nat.le_of_eq hD)
  obtain ⟨W, ⟨m0, w0⟩, turn⟩ := q D hDn
  -- the new list
  generalize hs3 : ({ s2 with heap := s2.heap.push { cls := .type "dict", data := .dict #[] } } : Shared) = s3
  have I3 : Inv X pins σ (upd H2 D (LD X.prog X.w D [])) s3 := by
    rw [← hs3]
    refine I2.laid (t' := s2.toks) (fun b o e => Heap.get?_push_of_some _ e) (Nat.le_of_eq hD) ?_
    rw [← hD]
    exact ld_empty s2.heap I2.big
  have h3 : s3.heap = s2.heap.push { cls := .type "dict", data := .dict #[] } := by rw [← hs3]
  have sz : ∀ b ∈ fp, b < s2.heap.objs.size := fun b hb => by
    obtain ⟨o, e, _⟩ := T.obj _ _ st2 b hb
    exact Heap.lt_size e
  have f3 : ∀ b ∈ fp, FpOk X pins (upd H2 D (LD X.prog X.w D [])) b ∧ b < s3.heap.objs.size := fun b hb => by
    have hlt := sz b hb
    refine ⟨⟨?_, (f2 b hb).2⟩, by rw [h3, Heap.size_push]; exact Nat.lt_succ_of_lt hlt⟩
    rw [upd_ne (by rw [← hD]; exact Nat.ne_of_lt hlt)]
    exact (f2 b hb).1
  have st3 : tn 0 s3.heap := T.keep _ _ _ st2 fun b _ o e => by rw [h3]; exact Heap.get?_push_of_some _ e
  have I4 := block_start I3 ok hN f3
  have pg := hg s3 (upd H2 D (LD X.prog X.w D [])) s3.heap.objs.size (cellsFrom (s3.heap.objs.size + 1) scope.names (cloFrom X.env.cells scope.names [])) fp
  have pt := ht s3 (upd H2 D (LD X.prog X.w D [])) s3.heap.objs.size (cellsFrom (s3.heap.objs.size + 1) scope.names (cloFrom X.env.cells scope.names [])) fp
  have pk := hk s3 (upd H2 D (LD X.prog X.w D [])) s3.heap.objs.size (cellsFrom (s3.heap.objs.size + 1) scope.names (cloFrom X.env.cells scope.names [])) fp
  have pe := he s3 (upd H2 D (LD X.prog X.w D [])) s3.heap.objs.size (cellsFrom (s3.heap.objs.size + 1) scope.names (cloFrom X.env.cells scope.names [])) fp
  have pi1 := hi1 s3 (upd H2 D (LD X.prog X.w D [])) s3.heap.objs.size (cellsFrom (s3.heap.objs.size + 1) scope.names (cloFrom X.env.cells scope.names [])) fp
  have pg1 := hg1 s3 (upd H2 D (LD X.prog X.w D [])) s3.heap.objs.size (cellsFrom (s3.heap.objs.size + 1) scope.names (cloFrom X.env.cells scope.names [])) fp
  have pt1 := ht1 s3 (upd H2 D (LD X.prog X.w D [])) s3.heap.objs.size (cellsFrom (s3.heap.objs.size + 1) scope.names (cloFrom X.env.cells scope.names [])) fp
  show codeAny _ _ (.compStart (.DictComp kx vx [⟨tg, iter, ifs, 0⟩, ⟨tg1, iter1, ifs1, 0⟩] scope pos) 0 (.ref it) (.ref D) (compEnvC scope (cellsFrom (s3.heap.objs.size + 1) scope.names (cloFrom X.env.cells scope.names [])) s3.heap.objs.size X.env)) (compPost (model X.prog X.w) X.A X.xe use Qf (.ref D) s3.heap.objs.size) { s3 with heap := pushCells (s3.heap.push { cls := .type "dict", data := .dict #[] }) scope.names }
  have nfp : ∀ b ∈ fp, (upd H2 D (LD X.prog X.w D [])) b = none := fun b hb => (f3 b hb).1.1
  generalize hce : compEnvC scope (cellsFrom (s3.heap.objs.size + 1) scope.names (cloFrom X.env.cells scope.names [])) s3.heap.objs.size X.env = ce at I4 pg pt pk pe pi1 pg1 pt1 ⊢
  have cL : ce.locals = s3.heap.objs.size := by subst hce; rfl
  generalize hH3 : upd H2 D (LD X.prog X.w D []) = H3 at I3 I4 pg pt pk pe pi1 pg1 pt1 w0 nfp f3
  generalize hs4 : ({ s3 with heap := pushCells (s3.heap.push { cls := .type "dict", data := .dict #[] }) scope.names } : Shared) = s4 at I4 ⊢
  have st4 : tn 0 s4.heap := T.keep _ _ _ st3 fun b _ o e => by rw [← hs4]; exact pushCells_keeps _ _ _ _ (Heap.get?_push_of_some _ e)
  have stat : ∀ {σ' : L2.St} {H' : Hp} {s' : Shared}, Inv (X.blk s3 H3 scope ce fp) [] σ' H' s' → (∀ b ∈ fp, H' b = none) → ∀ b ∈ fp, FpOk (X.blk s3 H3 scope ce fp) [] H' b := fun {σ' H' s'} I' hn b hb =>
    ⟨hn b hb, (I'.ok.exf b hb).1, I'.ok.exfs b hb, .inl hb, fun x c e => (I'.ok.exf b hb).2 x c e, fun p hp => absurd (show p ∈ ([] : List (Addr × Obj)) ++ [] from hp) (by simp)⟩
  have loop : codeAny (model X.prog X.w) X.A (.compLoop (.DictComp kx vx [⟨tg, iter, ifs, 0⟩, ⟨tg1, iter1, ifs1, 0⟩] scope pos) 0 (.ref it) (.ref D) ce) (compPost (model X.prog X.w) X.A X.xe use Qf (.ref D) s3.heap.objs.size) s4 := by
    refine dcLoop2_out (hs1 ce) (fun n s' => ∃ i H', Inv (X.blk s3 H3 scope ce fp) [] (wipe σ (own.map (·.2))) H' s' ∧ tn i s'.heap ∧ (∀ b ∈ fp, H' b = none) ∧ W i n H') ?_ m0 ⟨0, H3, I4, st4, nfp, w0⟩
    rintro n s5 ⟨i, H5, I5, st5, n5, w5⟩
    rcases turn i n H5 w5 with ⟨stop, qq⟩ | ⟨go, Nx, hNx, step⟩
    · have td := T.done (X.blk s3 H3 scope ce fp) rfl rfl rfl hc i [] s5 _ H5 (fun _ _ => False) I5 (stat I5 n5) st5 stop
      refine thnF td fun r s6 ⟨hr, I6⟩ => ?_
      subst hr
      -- back in the def's context
      have I7 : Inv X pins σ H5 s6 := I3.call' (ch := fp) I6.os I6.base I6.hok I6.bare fun b hb => ⟨(f3 b hb).1.2.2.2.1, (f3 b hb).1.2.1, (f3 b hb).1.2.2.2.2.1, (f3 b hb).1.2.2.2.2.2⟩
      have nC : H5 s3.heap.objs.size = none := by
        have z : H5 ce.locals = none := I6.free
        rw [cL] at z
        exact z
      obtain ⟨m, hn, _⟩ := I6.loc
      have hn : s6.heap.Ns ce.locals m := hn
      rw [cL] at hn
      exact hRR D s3.heap.objs.size s6 m H5 I7 qq hn (I3.fpOk (Nat.le_refl _) nC)
    · have ti := T.item (X.blk s3 H3 scope ce fp) rfl rfl rfl hc i [] s5 _ H5 (fun _ _ => False) I5 (stat I5 n5) st5 go
      refine thnF ti fun r s6 ⟨u, hr, h6⟩ => ?_
      subst hr
      refine thnF h6 fun _ s7 ⟨x, H7, I7, r7, y7, st7, n7⟩ => ?_
      have I7' := I7.pinned (stat I7 n7) (T.obj _ _ st7)
      refine thnF (pg.run _ s7 _ H7 x u _ I7' r7 (step x H7 y7)) fun _ s8 ⟨σ8, H8, I8, hw8, q8⟩ => ?_
      refine thnF (pt.run _ s8 σ8 H8 _ I8 q8) fun b s9 ⟨H9, I9, q9⟩ => ?_
      -- the turn's end, from any slots that know what the block knew at its start
      have fin : ∀ {σ9 : L2.St} {s' : Shared} {H' : Hp}, Inv (X.blk s3 H3 scope ce fp) ([] ++ pinsAt fp s7.heap) σ9 H' s' → (wipe σ (own.map (·.2))).length = σ9.length → (∀ (j : Nat) v, (wipe σ (own.map (·.2)))[j]? = some (some v) → σ9[j]? = some (some v)) → Nx H' →
          ∃ m, m < n ∧ ∃ i H', Inv (X.blk s3 H3 scope ce fp) [] (wipe σ (own.map (·.2))) H' s' ∧ tn i s'.heap ∧ (∀ b ∈ fp, H' b = none) ∧ W i m H' := fun {σ9 s' H'} I' hl hk nx => by
        obtain ⟨m', hm, w'⟩ := hNx H' nx
        have pin' : ∀ b ∈ fp, ∀ o, s7.heap.get? b = some o → s'.heap.get? b = some o ∧ H' b = none := fun b hb o e =>
          let z := I'.pin (b, o) (List.mem_append_right _ (List.mem_append_right _ (mem_pinsAt hb e)))
          ⟨z.1, z.2.1⟩
        refine ⟨m', hm, i + 1, H', (I'.unpinned (pins := [])).weak hl hk, T.keep _ _ _ st7 fun b hb o e => (pin' b hb o e).1, fun b hb => ?_, w'⟩
        obtain ⟨o, e, _⟩ := T.obj _ _ st7 b hb
        exact (pin' b hb o e).2
      have hl8 : (wipe σ (own.map (·.2))).length = σ8.length := by rw [← hw8, wipe_length]
      have hk8 : ∀ (j : Nat) v, (wipe σ (own.map (·.2)))[j]? = some (some v) → σ8[j]? = some (some v) := fun j v e => by
        rw [← hw8] at e
        exact (wipe_some e).1
      have hk9 : ∀ (j : Nat) v, (wipe σ (own.map (·.2)))[j]? = some (some v) → (wipe σ8 vs1)[j]? = some (some v) := fun j v e => by
        rw [← hw8] at e
        obtain ⟨e1, e2⟩ := wipe_some e
        rw [wipe_out fun z => e2 (hv j z)]
        exact e1
      cases b with
      | false =>
        simp only [Bool.false_eq_true, if_false] at q9 ⊢
        exact fin I9 hl8 hk8 q9
      | true =>
        simp only [if_true] at q9 ⊢
        refine thnF (pi1.run _ s9 σ8 H9 _ I9 q9) fun xv s10 hx => thnF hx fun itv s11 h11 => ?_
        obtain ⟨it1, fp1, tn1, J1, H11, e1, I11, T1, st11, f11, W1, ⟨m1, w1⟩, turn1⟩ := h11
        subst e1
        -- the inner loop
        have stat1 : ∀ {H' : Hp}, (∀ b ∈ fp1, H' b = none) → ∀ b ∈ fp1, FpOk (X.blk s3 H3 scope ce fp) ([] ++ pinsAt fp s7.heap) H' b := fun hn b hb => ⟨hn b hb, (f11 b hb).2⟩
        have loop1 : codeAny (model X.prog X.w) X.A (.compLoop (.DictComp kx vx [⟨tg, iter, ifs, 0⟩, ⟨tg1, iter1, ifs1, 0⟩] scope pos) 1 (.ref it1) (.ref D) ce)
            (fun r s' => match r with
              | .ok _ => ∃ m, m < n ∧ ∃ i H', Inv (X.blk s3 H3 scope ce fp) [] (wipe σ (own.map (·.2))) H' s' ∧ tn i s'.heap ∧ (∀ b ∈ fp, H' b = none) ∧ W i m H'
              | .error _ => False) s11 := by
          refine dcLoop2_in (fun k s' => ∃ j H', Inv (X.blk s3 H3 scope ce fp) ([] ++ pinsAt fp s7.heap) (wipe σ8 vs1) H' s' ∧ tn1 j s'.heap ∧ (∀ b ∈ fp1, H' b = none) ∧ W1 j k H') ?_ m1 ⟨0, H11, I11.weak (wipe_length _ _) (fun j v e => (wipe_some e).1), st11, fun b hb => (f11 b hb).1, w1⟩
          rintro k s12 ⟨j, H12, I12, st12, n12, w12⟩
          rcases turn1 j k H12 w12 with ⟨stop1, nx1⟩ | ⟨go1, Nx1, hNx1, step1⟩
          · refine thnF (T1.done (X.blk s3 H3 scope ce fp) rfl rfl rfl hc j _ s12 (wipe σ8 vs1) H12 (fun _ _ => False) I12 (stat1 n12) st12 stop1) fun r s13 ⟨hr, I13⟩ => ?_
            subst hr
            exact fin I13 (hl8.trans (wipe_length σ8 vs1).symm) hk9 nx1
          · refine thnF (T1.item (X.blk s3 H3 scope ce fp) rfl rfl rfl hc j _ s12 (wipe σ8 vs1) H12 (fun _ _ => False) I12 (stat1 n12) st12 go1) fun r s13 ⟨u1, hr, h13⟩ => ?_
            subst hr
            refine thnF h13 fun _ s14 ⟨x1, H14, I14, r14, y14, st14, n14⟩ => ?_
            have I14' := I14.pinned (stat1 n14) (T1.obj _ _ st14)
            refine thnF (pg1.run _ s14 (wipe σ8 vs1) H14 x1 u1 _ I14' r14 (step1 x1 H14 y14)) fun _ s15 ⟨σ15, H15, I15, hw15, q15⟩ => ?_
            refine thnF (pt1.run _ s15 σ15 H15 _ I15 q15) fun b1 s16 ⟨H16, I16, q16⟩ => ?_
            have fin1 : ∀ {s' : Shared} {H' : Hp}, Inv (X.blk s3 H3 scope ce fp) (([] ++ pinsAt fp s7.heap) ++ pinsAt fp1 s14.heap) σ15 H' s' → Nx1 H' → ∃ m, m < k ∧ ∃ j H', Inv (X.blk s3 H3 scope ce fp) ([] ++ pinsAt fp s7.heap) (wipe σ8 vs1) H' s' ∧ tn1 j s'.heap ∧ (∀ b ∈ fp1, H' b = none) ∧ W1 j m H' := fun {s' H'} I' nx => by
              obtain ⟨m', hm, w'⟩ := hNx1 H' nx
              have pin' : ∀ b ∈ fp1, ∀ o, s14.heap.get? b = some o → s'.heap.get? b = some o ∧ H' b = none := fun b hb o e =>
                let z := I'.pin (b, o) (List.mem_append_right _ (List.mem_append_right _ (mem_pinsAt hb e)))
                ⟨z.1, z.2.1⟩
              refine ⟨m', hm, j + 1, H', I'.unpinned.weak (by rw [← hw15, wipe_length]) (fun j v e => by rw [← hw15] at e; exact (wipe_some e).1), T1.keep _ _ _ st14 fun b hb o e => (pin' b hb o e).1, fun b hb => ?_, w'⟩
              obtain ⟨o, e, _⟩ := T1.obj _ _ st14 b hb
              exact (pin' b hb o e).2
            cases b1 with
            | false =>
              simp only [Bool.false_eq_true, if_false] at q16 ⊢
              exact fin1 I16 q16
            | true =>
              simp only [if_true] at q16 ⊢
              refine thnF (pk.run _ s16 σ15 H16 _ I16 q16) fun z0 s17 ⟨yk, H17, I17, r17, q17⟩ => ?_
              refine thnF (pe.run _ s17 σ15 H17 _ I17 q17) fun z s18 ⟨yv, H18, I18, r18, kvs, l, ad, ek, hak, hD18, hlk, hz18, nx⟩ => ?_
              subst ek
              cases (show z0 = Value.ref ad from r17)
              exact l_dictSet (X := X.blk s3 H3 scope ce fp) hu I18 hak hD18 hlk hz18 r18 fun s19 I19 => fin1 I19 nx
        exact dcStart1_ok loop1 (T1.self X.A 0 _ _ _ st11 loop1)
  exact codeAny_compStart_dict loop (T.self X.A 0 _ _ _ st4 loop)
theorem pe_ldc2 {kx vx tg iter tg1 iter1 : Expr} {ifs ifs1 : List Expr} {scope : Scope} {own : List (Str × Nat)} {vs1 : List Nat} {pos : Pos} {wi wi1 : TI} {g g1 : TG} {tt tt1 : TT} {tk tv : TE} (hu : X.A.units + 1 < cLine) (hc : X.calm = true) (hN : X.N.Nodup) (hi : PI X tg iter wi) (ok : BlkOk X.N X.env.scope scope own) (hv : ∀ i ∈ vs1, i ∈ own.map (·.2))
    (hg : ∀ (s : Shared) (H : Hp) (C : Addr) (cl : List (Str × Addr)) (fp : List Addr), PG (X.blk s H scope (compEnvC scope cl C X.env) fp) tg g) (ht : ∀ (s : Shared) (H : Hp) (C : Addr) (cl : List (Str × Addr)) (fp : List Addr), PTs (X.blk s H scope (compEnvC scope cl C X.env) fp) ifs tt)
    (hi1 : ∀ (s : Shared) (H : Hp) (C : Addr) (cl : List (Str × Addr)) (fp : List Addr), PI (X.blk s H scope (compEnvC scope cl C X.env) fp) tg1 iter1 wi1)
    (hg1 : ∀ (s : Shared) (H : Hp) (C : Addr) (cl : List (Str × Addr)) (fp : List Addr), PG (X.blk s H scope (compEnvC scope cl C X.env) fp) tg1 g1) (ht1 : ∀ (s : Shared) (H : Hp) (C : Addr) (cl : List (Str × Addr)) (fp : List Addr), PTs (X.blk s H scope (compEnvC scope cl C X.env) fp) ifs1 tt1)
    (hk : ∀ (s : Shared) (H : Hp) (C : Addr) (cl : List (Str × Addr)) (fp : List Addr), PE (X.blk s H scope (compEnvC scope cl C X.env) fp) kx tk)
    (he : ∀ (s : Shared) (H : Hp) (C : Addr) (cl : List (Str × Addr)) (fp : List Addr), PE (X.blk s H scope (compEnvC scope cl C X.env) fp) vx tv) (hs : ∀ x, foldedSetIterable iter X.env x = pure x := by intro _; rfl) (hs1 : ∀ env x, foldedSetIterable iter1 env x = pure x := by intro _ _; rfl) :
    PE X (.DictComp kx vx [⟨tg, iter, ifs, 0⟩, ⟨tg1, iter1, ifs1, 0⟩] scope pos) (tLDc2 X.prog X.w X.K wi g tt wi1 g1 tt1 tk tv (own.map (·.2)) vs1) := by
  refine ⟨fun pins s σ H Q I h => ?_⟩
  rw [arm_eval_DictComp]
  refine ldc2_core hu hc hN I hi ok hv hg ht hk he hs hi1 hg1 ht1 hs1 h fun D C s' m H' I' q hn f => ⟨m, hn, fun h'' sb => ?_⟩
  obtain ⟨f0, f1, f2, f3, f4, f5⟩ := f
  exact ⟨.ref D, H', I'.turned (t' := s'.toks) (fun b o hb e => (sb.2 b hb).trans e) f0 f1 f3 f4 f5, rfl, q⟩
theorem ps_setLdc {i : Nat} {y : Str} {py : Pos} {kx vx tg iter : Expr} {ifs : List Expr} {scope : Scope} {own : List (Str × Nat)} {pos spos : Pos} {wi : TI} {g : TG} {tt : TT} {tk tv : TE} (hu : X.A.units + 1 < cLine) (hc : X.calm = true) (hN : X.N.Nodup) (hy : X.N[i]? = some y) (hyl : X.env.scope.names.lookup y = some .local)
    (hsw : swapsWith (.DictComp kx vx [⟨tg, iter, ifs, 0⟩] scope pos) (some (.Name y py)) spos.line X.env = pure true) (hi : PI X tg iter wi) (ok : BlkOk X.N X.env.scope scope own)
    (hg : ∀ (s : Shared) (H : Hp) (C : Addr) (cl : List (Str × Addr)) (fp : List Addr), PG (X.blk s H scope (compEnvC scope cl C X.env) fp) tg g) (ht : ∀ (s : Shared) (H : Hp) (C : Addr) (cl : List (Str × Addr)) (fp : List Addr), PTs (X.blk s H scope (compEnvC scope cl C X.env) fp) ifs tt)
    (hk : ∀ (s : Shared) (H : Hp) (C : Addr) (cl : List (Str × Addr)) (fp : List Addr), PE (X.blk s H scope (compEnvC scope cl C X.env) fp) kx tk)
    (he : ∀ (s : Shared) (H : Hp) (C : Addr) (cl : List (Str × Addr)) (fp : List Addr), PE (X.blk s H scope (compEnvC scope cl C X.env) fp) vx tv) (hs : ∀ x, foldedSetIterable iter X.env x = pure x := by intro _; rfl) :
    PS X (.Assign [.Name y py] (.DictComp kx vx [⟨tg, iter, ifs, 0⟩] scope pos) spos) (tAsg (tLDc X.prog X.w X.K wi g tt tk tv (own.map (·.2))) (gName i)) := by
  refine ⟨fun pins s σ H D I h => ?_⟩
  rw [exec_Assign_Name_used _ _ _ _ hsw]
  refine wpAny_bind (wpAny_standAt (wpAny_bind ?_))
  show wpAny _ X.A (do let _ ← comprehension (.DictComp kx vx [⟨tg, iter, ifs, 0⟩] scope pos) scope X.env (firstIterPos [⟨tg, iter, ifs, 0⟩] pos) newDict false (eval iter X.env) (some (assign (.Name y py) X.env))) _ _ s
  have h : tLDc X.prog X.w X.K wi g tt tk tv (own.map (·.2)) σ H (fun x H1 => gName i x σ H1 D.nx) := h
  refine wpAny_bind (thn (ldc_core (Qf := fun _ s' => SP X pins D .next s') hu hc hN I hi ok hg ht hk he hs h fun L C s' m H' I' q hn f => ?_) fun _ s' hq => wpAny_pure (wpAny_pure hq))
  show wpAny _ _ (assign (.Name y py) X.env (.ref L)) _ _ _
  refine wpAny_assign_Name (store_ok2 (v := V.ref L) I' hN hy (.inl hyl) rfl (fun s2 I2 ⟨a, sb, ha⟩ => ?_) (.inr hyl))
  obtain ⟨f0, f1, f2, f3, f4, f5⟩ := f
  have haC : C ≠ a := by
    rcases ha with z | z
    · rw [z]; exact f1
    · exact fun e => f4 y a z e.symm
  refine ⟨m, hn.sameBut sb haC, fun h3 sb3 => ?_⟩
  exact ⟨_, H', I2.turned (t' := s2.toks) (fun b o hb e => (sb3.2 b hb).trans e) f0 f1 f3 f4 f5, q⟩
theorem ps_setLdc2 {i : Nat} {y : Str} {py : Pos} {kx vx tg iter tg1 iter1 : Expr} {ifs ifs1 : List Expr} {scope : Scope} {own : List (Str × Nat)} {vs1 : List Nat} {pos spos : Pos} {wi wi1 : TI} {g g1 : TG} {tt tt1 : TT} {tk tv : TE} (hu : X.A.units + 1 < cLine) (hc : X.calm = true) (hN : X.N.Nodup) (hy : X.N[i]? = some y) (hyl : X.env.scope.names.lookup y = some .local)
    (hsw : swapsWith (.DictComp kx vx [⟨tg, iter, ifs, 0⟩, ⟨tg1, iter1, ifs1, 0⟩] scope pos) (some (.Name y py)) spos.line X.env = pure true) (hi : PI X tg iter wi) (ok : BlkOk X.N X.env.scope scope own) (hv : ∀ i ∈ vs1, i ∈ own.map (·.2))
    (hg : ∀ (s : Shared) (H : Hp) (C : Addr) (cl : List (Str × Addr)) (fp : List Addr), PG (X.blk s H scope (compEnvC scope cl C X.env) fp) tg g) (ht : ∀ (s : Shared) (H : Hp) (C : Addr) (cl : List (Str × Addr)) (fp : List Addr), PTs (X.blk s H scope (compEnvC scope cl C X.env) fp) ifs tt)
    (hi1 : ∀ (s : Shared) (H : Hp) (C : Addr) (cl : List (Str × Addr)) (fp : List Addr), PI (X.blk s H scope (compEnvC scope cl C X.env) fp) tg1 iter1 wi1)
    (hg1 : ∀ (s : Shared) (H : Hp) (C : Addr) (cl : List (Str × Addr)) (fp : List Addr), PG (X.blk s H scope (compEnvC scope cl C X.env) fp) tg1 g1) (ht1 : ∀ (s : Shared) (H : Hp) (C : Addr) (cl : List (Str × Addr)) (fp : List Addr), PTs (X.blk s H scope (compEnvC scope cl C X.env) fp) ifs1 tt1)
    (hk : ∀ (s : Shared) (H : Hp) (C : Addr) (cl : List (Str × Addr)) (fp : List Addr), PE (X.blk s H scope (compEnvC scope cl C X.env) fp) kx tk)
    (he : ∀ (s : Shared) (H : Hp) (C : Addr) (cl : List (Str × Addr)) (fp : List Addr), PE (X.blk s H scope (compEnvC scope cl C X.env) fp) vx tv) (hs : ∀ x, foldedSetIterable iter X.env x = pure x := by intro _; rfl) (hs1 : ∀ env x, foldedSetIterable iter1 env x = pure x := by intro _ _; rfl) :
    PS X (.Assign [.Name y py] (.DictComp kx vx [⟨tg, iter, ifs, 0⟩, ⟨tg1, iter1, ifs1, 0⟩] scope pos) spos) (tAsg (tLDc2 X.prog X.w X.K wi g tt wi1 g1 tt1 tk tv (own.map (·.2)) vs1) (gName i)) := by
  refine ⟨fun pins s σ H D I h => ?_⟩
  rw [exec_Assign_Name_used _ _ _ _ hsw]
  refine wpAny_bind (wpAny_standAt (wpAny_bind ?_))
  show wpAny _ X.A (do let _ ← comprehension (.DictComp kx vx [⟨tg, iter, ifs, 0⟩, ⟨tg1, iter1, ifs1, 0⟩] scope pos) scope X.env (firstIterPos [⟨tg, iter, ifs, 0⟩, ⟨tg1, iter1, ifs1, 0⟩] pos) newDict false (eval iter X.env) (some (assign (.Name y py) X.env))) _ _ s
  have h : tLDc2 X.prog X.w X.K wi g tt wi1 g1 tt1 tk tv (own.map (·.2)) vs1 σ H (fun x H1 => gName i x σ H1 D.nx) := h
  refine wpAny_bind (thn (ldc2_core (Qf := fun _ s' => SP X pins D .next s') hu hc hN I hi ok hv hg ht hk he hs hi1 hg1 ht1 hs1 h fun L C s' m H' I' q hn f => ?_) fun _ s' hq => wpAny_pure (wpAny_pure hq))
  show wpAny _ _ (assign (.Name y py) X.env (.ref L)) _ _ _
  refine wpAny_assign_Name (store_ok2 (v := V.ref L) I' hN hy (.inl hyl) rfl (fun s2 I2 ⟨a, sb, ha⟩ => ?_) (.inr hyl))
  obtain ⟨f0, f1, f2, f3, f4, f5⟩ := f
  have haC : C ≠ a := by
    rcases ha with z | z
    · rw [z]; exact f1
    · exact fun e => f4 y a z e.symm
  refine ⟨m, hn.sameBut sb haC, fun h3 sb3 => ?_⟩
  exact ⟨_, H', I2.turned (t' := s2.toks) (fun b o hb e => (sb3.2 b hb).trans e) f0 f1 f3 f4 f5, q⟩
theorem sw_trueD {kx vx : Expr} {gs : List Comprehension} {scope : Scope} {pos py : Pos} {y : Str} {l : Nat} {env : Env} (hk : env.scope.kind = .function) (hy : env.scope.names.lookup y = some .local) (hl : (py.line == pos.line) = true)
    (ha : (scope.names.any fun (n, k) => n == y && (k == .local || k == .cell)) = false) : swapsWith (.DictComp kx vx gs scope pos) (some (.Name y py)) l env = pure true := by
  have ky : env.kindOf y = some .local := hy
  have hb : env.blockKind = .function := by unfold Env.blockKind; rw [hk]; rfl
  unfold swapsWith
  simp only [hb, ky, ha, Expr.pos, hl]
  rfl
end
end K19

/-! ## K19O -/
set_option Elab.async false
set_option linter.all false
set_option maxRecDepth 100000
set_option maxHeartbeats 4000000
namespace K19
open PySem PySem.Spec PyProof.Rows L2 Evl
/-! ### the entries, as the model has them -/
theorem ld_raw {P : Program} {w : World} {h : Heap} {d : Addr} {kvs : List Ent} (x : LDat P w h d kvs) : ∃ (o : Obj) (es : Array DictEntry) (ep : Nat), h.get? d = some o ∧ o.ExactDict ∧ o.data = .dict es ep ∧ es.size = kvs.length ∧
    ∀ (i : Nat) (e : Ent), kvs[i]? = some e → ∃ en : DictEntry, es[i]? = some en ∧ en.key = .ref e.2.1 ∧ RelV e.2.2 en.val := by
  obtain ⟨z, hd, xs, r, o, es, ep, ho, hx, hdat, hes, hn⟩ := x
  have l1 : es.size = xs.length := size_of_entries hes
  have l2 : kvs.length = xs.length := Paired.length r
  refine ⟨o, es, ep, ho, hx, hdat, by omega, fun i e he => ?_⟩
  obtain ⟨q, hq, h1, h2, h3⟩ := paired_get r he
  have z2 := entry_at hes i
  rw [hq] at z2
  exact ⟨_, z2, by show Value.ref q.2.1 = _; rw [h2], h3⟩
/-- the entries at turn i of a locked dict; its keys -/
def Itlk (d : Addr) (o : Obj) (P : Program) (w : World) (kvs : List Ent) : It :=
  ⟨fun i H => H d = some (.frz o (LD P w d kvs)) ∧ i < kvs.length, fun i H x H' => H' = H ∧ ∃ e, kvs[i]? = some e ∧ x = .ref e.2.1, fun i H => H d = some (.frz o (LD P w d kvs)) ∧ kvs.length ≤ i⟩
/-- .. the pairs -/
def Itli (d : Addr) (o : Obj) (P : Program) (w : World) (kvs : List Ent) : It :=
  ⟨fun i H => H d = some (.frz o (LD P w d kvs)) ∧ i < kvs.length, fun i H x H' => ∃ T e, kvs[i]? = some e ∧ x = .ref T ∧ H T = none ∧ H' = upd H T (.tup [.ref e.2.1, e.2.2]), fun i H => H d = some (.frz o (LD P w d kvs)) ∧ kvs.length ≤ i⟩
theorem ld_frz {X : Cx} {pins : List (Addr × Obj)} {σ : L2.St} {H : Hp} {s : Shared} {d : Addr} {o : Obj} {kvs : List Ent} (I : Inv X pins σ H s) (h : H d = some (.frz o (LD X.prog X.w d kvs))) :
    (d == sysModules) = false ∧ s.heap.get? d = some o ∧ o.ExactDict ∧ ∃ (es : Array DictEntry) (ep : Nat), o.data = .dict es ep ∧ es.size = kvs.length ∧
      ∀ (i : Nat) (e : Ent), kvs[i]? = some e → ∃ en : DictEntry, es[i]? = some en ∧ en.key = .ref e.2.1 ∧ RelV e.2.2 en.val := by
  obtain ⟨hd, hx⟩ := I.hok d _ h
  have x := hx.1
  obtain ⟨o', es, ep, ho, hc, hdat, hsz, ent⟩ := ld_raw x
  rw [hd] at ho
  cases ho
  exact ⟨x.2.1, hd, hc, es, ep, hdat, hsz, ent⟩
section
variable {P : Program} {w : World} {K : PySem.W.Frag} {tg : Expr} {d : Addr} {o : Obj} {es : Array DictEntry} {ep : Nat} {kvs : List Ent}
theorem turn_lkeys (it : Addr) (hod : o.data = .dict es ep) : Turn P w K tg (Itlk d o P w kvs) [it] it (fun i h => h.IsKeyIter it d i kvs.length ep) where
  mem := by simp
  obj := fun i h st b hb => by
    have e : b = it := by simpa using hb
    subst e
    obtain ⟨oi, e, c, dd⟩ := st
    exact ⟨oi, e, fun v z => by rw [dd] at z; cases z⟩
  keep := fun i h h' st k => st.at fun oi e => k it (by simp) oi e
  item := by
    intro X hP hw hK hc i pins s σ H E I hf st hg
    subst hP hw hK
    obtain ⟨hd, hi⟩ := hg
    obtain ⟨f0, f1, f2, f3, f4, f5⟩ := hf it (by simp)
    obtain ⟨hs, hgd, hx, es', ep', hdt, hsz, ent⟩ := ld_frz I hd
    obtain ⟨rfl, rfl⟩ := dict_ep hod hdt
    obtain ⟨e0, hkv⟩ : ∃ p, kvs[i]? = some p := ⟨kvs[i], List.getElem?_eq_getElem hi⟩
    obtain ⟨en, hen, hkey, _⟩ := ent i e0 hkv
    refine next_key_item st hgd hdt hsz hen fun h' st' sb => ?_
    have I1 : Inv X pins σ H { s with heap := h' } := I.turned (t' := s.toks) (fun b ob hb e => (sb.2 b hb).trans e) f0 f1 f3 f4 f5
    obtain ⟨oi, e, c, dd⟩ := id st'
    exact ⟨en.key, rfl, go_of (s := { s with heap := h' }) e c dd (by decide) ⟨.ref e0.2.1, H, I1, hkey, ⟨rfl, e0, hkv, rfl⟩, st', fun b hb => (hf b hb).1⟩⟩
  done := by
    intro X hP hw hK hc i pins s σ H E I hf st hg
    subst hP hw hK
    obtain ⟨hd, hi⟩ := hg
    obtain ⟨f0, f1, f2, f3, f4, f5⟩ := hf it (by simp)
    obtain ⟨hs, hgd, hx, es', ep', hdt, hsz, ent⟩ := ld_frz I hd
    obtain ⟨rfl, rfl⟩ := dict_ep hod hdt
    exact next_key_end (I.ok.hd hc) st hgd hdt hsz hi fun h' eb => ⟨rfl, I.turned (t' := s.toks) (fun b ob hb e => eb b ob hb e) f0 f1 f3 f4 f5⟩
  self := fun A i s Q E st h => by
    refine wpAny_pyIter_slot st.typeIs F.slot_dict_keyiterator_iter (wpAny_call_entry F.slot_dict_keyiterator_iter st.typeIs F.entry_dict_keyiterator_iter ?_ (F.args_dict_keyiterator_iter_1 _))
    show wpAny _ _ (ret (.ref it)) _ _ s
    exact wpAny_pure ⟨_, rfl, "dict_keyiterator", _, st.typeIs, F.slot_dict_keyiterator_next.lookup, h⟩
theorem turn_litems {elts : List Expr} {kk : Nat} {tpos : Pos} (it : Addr) (hod : o.data = .dict es ep) :
    Turn P w K (.Tuple elts kk tpos) (Itli d o P w kvs) [it] it (fun i h => ∃ ok ov, IsItemIter h it d i kvs.length ep ok ov) where
  mem := by simp
  obj := fun i h st b hb => by
    have e : b = it := by simpa using hb
    subst e
    obtain ⟨ok, ov, e⟩ := st
    exact ⟨_, e, fun v z => nomatch z⟩
  keep := fun i h h' st k => let ⟨ok, ov, e⟩ := st; ⟨ok, ov, k it (by simp) _ e⟩
  item := by
    intro X hP hw hK hc i pins s σ H E I hf st hg
    subst hP hw hK
    obtain ⟨hd, hi⟩ := hg
    obtain ⟨hs, hgd, hx, es', ep', hdt, hsz, ent⟩ := ld_frz I hd
    obtain ⟨rfl, rfl⟩ := dict_ep hod hdt
    obtain ⟨e0, hkv⟩ : ∃ p, kvs[i]? = some p := ⟨kvs[i], List.getElem?_eq_getElem hi⟩
    obtain ⟨en, hen, hkey, rval⟩ := ent i e0 hkv
    obtain ⟨ok, ov, he⟩ := st
    rw [← hsz] at he
    have hlt : it < s.heap.objs.size := Heap.lt_size he
    have hi' : i < es'.size := by omega
    have een : es'[i] = en := by
      rw [Array.getElem?_eq_getElem hi'] at hen
      exact Option.some.inj hen
    refine wpAny_pyNext_items_item_raw he ⟨o, hgd, hx, hdt⟩ hi' fun h' ho hT hz hk => ?_
    rw [een] at ho hT
    refine ⟨_, rfl, wpAny_letOwnedTupleGo_items (s := { s with heap := h' }) ho fun h'' he' sb => ?_⟩
    have hT2 : h''.get? s.heap.objs.size = some { cls := .type "tuple", data := .seq #[en.key, en.val] } := (sb.2 _ (Nat.ne_of_gt hlt)).trans hT
    have new : ObjOk X.prog X.w (upd H s.heap.objs.size (.tup [.ref e0.2.1, e0.2.2])) h'' s.heap.objs.size (.tup [.ref e0.2.1, e0.2.2]) :=
      ⟨by show 2 ≤ sizeLine; decide, [en.key, en.val], .cons hkey (.cons rval .nil), ⟨_, hT2, rfl, _, rfl⟩⟩
    have I1 : Inv X pins σ (upd H s.heap.objs.size (.tup [.ref e0.2.1, e0.2.2])) { s with heap := h'' } :=
      I.turnedNew (t' := s.toks) (ch := [it]) (fun b ob hb e => (sb.2 b (by simpa using hb)).trans (hk b ob (by simpa using hb) e)) hf (Nat.le_refl _) new
    refine ⟨.ref s.heap.objs.size, _, I1, rfl, ⟨_, e0, hkv, rfl, I.hok.fresh (Nat.le_refl _), rfl⟩, ⟨en.key, en.val, ?_⟩, fun b hb => ?_⟩
    · rw [← hsz]; exact he'
    · have e : b = it := by simpa using hb
      rw [e, upd_ne (Nat.ne_of_lt hlt)]
      exact (hf it (by simp)).1
  done := by
    intro X hP hw hK hc i pins s σ H E I hf st hg
    subst hP hw hK
    obtain ⟨hd, hi⟩ := hg
    obtain ⟨f0, f1, f2, f3, f4, f5⟩ := hf it (by simp)
    obtain ⟨hs, hgd, hx, es', ep', hdt, hsz, ent⟩ := ld_frz I hd
    obtain ⟨rfl, rfl⟩ := dict_ep hod hdt
    obtain ⟨ok, ov, he⟩ := st
    rw [← hsz] at he
    exact wpAny_pyNext_items_end_raw (I.ok.hd hc) he ⟨o, hgd, hx, hdt⟩ (by omega) fun h' eb => ⟨rfl, I.turned (t' := s.toks) (fun b ob hb e => eb b ob hb e) f0 f1 f3 f4 f5⟩
  self := fun A i s Q E st h => let ⟨_, _, e⟩ := st; PySem.W.kcp_self e h
end
/-! ### for k in d, for k, v in d.items() -/
def iLKeys (P : Program) (w : World) (td : TE) : TI := fun σ H R => td σ H fun x H1 => ∃ d o kvs, x = .ref d ∧ H1 d = some (.frz o (LD P w d kvs)) ∧ R (Itlk d o P w kvs) H1
def iLItems (P : Program) (w : World) (td : TE) : TI := fun σ H R => td σ H fun x H1 => ∃ d o kvs, x = .ref d ∧ H1 d = some (.frz o (LD P w d kvs)) ∧ R (Itli d o P w kvs) H1
section
variable {X : Cx} {tg e : Expr} {td : TE} {apos cpos : Pos}
theorem pi_lkeys (he : PE X e td) : PI X tg e (iLKeys X.prog X.w td) := by
  refine ⟨fun pins s σ H R I h => ?_⟩
  refine thn (he.run pins s σ H _ I h) fun u s1 ⟨x, H1, I1, rx, d, o, kvs, ex, hd, q⟩ => ?_
  subst ex
  obtain rfl : u = Value.ref d := rx
  obtain ⟨hs, hgd, hx, es, ep, hdt, hsz, ent⟩ := ld_frz I1 hd
  refine iter_keys hs hgd hx hdt (pi_one (tk := s1.toks) I1 _ (turn_lkeys _ hdt) ⟨_, Heap.get?_push_size _ rfl, rfl, ?_⟩ q)
  rw [hsz] <;> rfl
theorem pi_litems {elts : List Expr} {kk : Nat} {tpos : Pos} (he : PE X e td) (hbase : attributeBase e "items" X.env (eval e X.env) = eval e X.env := by rfl) (hline : (apos.endLine == cpos.line) = true := by rfl) :
    PI X (.Tuple elts kk tpos) (.Call (.Attribute e "items" apos) [] [] cpos) (iLItems X.prog X.w td) := by
  refine ⟨fun pins s σ H R I h => ?_⟩
  refine wpAny_Call_method (T := "dict") (id := "dict.items") hbase rfl hline F.plainAttrs_dict F.slot_dict_items F.type_dict_items (thn (he.run pins s σ H _ I h) fun u s1 ⟨x, H1, I1, rx, d, o, kvs, ex, hd, q⟩ => ?_)
  subst ex
  obtain rfl : u = Value.ref d := rx
  obtain ⟨hs, hgd, hx, es, ep, hdt, hsz, ent⟩ := ld_frz I1 hd
  refine ⟨⟨o, hgd, hx.1⟩, fun b q => by cases q; exact ⟨o, hgd, hx.2.1⟩, ?_⟩
  have raw : s1.heap.DictRaw d es ep := ⟨o, hgd, hx, hdt⟩
  have I2 : Inv X pins σ H1 { s1 with heap := s1.heap.push { cls := .type "dict_items", data := .fields #[.ref d] } } := I1.kept (t' := s1.toks) fun b ob q => Heap.get?_push_of_some _ q
  have fin : wpAny (model X.prog X.w) X.A (pyIter (.ref s1.heap.objs.size)) (PIE X pins σ (.Tuple elts kk tpos) R) X.xe { s1 with heap := s1.heap.push { cls := .type "dict_items", data := .fields #[.ref d] } } := by
    refine wpAny_pyIter_items_raw (d := d) (s := { s1 with heap := s1.heap.push { cls := .type "dict_items", data := .fields #[.ref d] } }) ⟨_, Heap.get?_push_size _ rfl, rfl, rfl⟩ (raw.at fun ob q => Heap.get?_push_of_some _ q) (pi_one (tk := s1.toks) I2 _ (turn_litems _ hdt) ⟨.none, .none, ?_⟩ q)
    rw [← hsz]
    exact Heap.get?_push_size _ rfl
  show wpAny _ _ (callWith cpos (.builtin "dict.items") [.ref d] [] []) _ X.xe s1
  exact method_meetsIn F.slot_dict_items F.entry_dict_items rfl (PySem.evalArgs_none ⟨rfl, ⟨o, hgd, hx.1⟩, F.args_dict_items_1 _, _, meets_dict_items_raw d hs, ⟨es, ep, raw⟩, fin⟩)
end
/-! ### list(d), sorted(d), sorted(xs) -/
theorem each_of_paired {α β : Type} {R : α → β → Prop} : ∀ {as : List α} {bs : List β}, Paired R as bs → PySem.W.EachIs R as bs
  | _, _, .nil => .nil
  | _, _, .cons r t => .cons r (each_of_paired t)
theorem paired_of_each {α β : Type} {R : α → β → Prop} : ∀ {as : List α} {bs : List β}, PySem.W.EachIs R as bs → Paired R as bs
  | _, _, .nil => .nil
  | _, _, .cons r t => .cons r (paired_of_each t)
/-- what the items of a list are sorted as -/
def Srt {α : Type} (K : PySem.W.Frag) (H : Hp) (R : DR α) (enc : α → PyData) (as : List α) : Prop := (∀ v a, a ∈ as → R H v a → Dp K H v (enc a)) ∧ PySem.W.AllAlike (as.map enc) ∧ PySem.W.Sortable (as.map enc) ∧ ∀ a ∈ as, (enc a).depth ≤ 8
noncomputable def sortedBy {α : Type} (enc : α → PyData) (as : List α) : List α := as.mergeSort (PySem.W.dataLe false enc)
theorem sortedBy_len {α : Type} (enc : α → PyData) (as : List α) : (sortedBy enc as).length = as.length := List.length_mergeSort as
theorem sortedBy_perm {α : Type} (enc : α → PyData) (as : List α) : (sortedBy enc as).Perm as := List.mergeSort_perm _ _
theorem sortedBy_mem {α : Type} {enc : α → PyData} {as : List α} {a : α} : a ∈ sortedBy enc as ↔ a ∈ as := (sortedBy_perm enc as).mem_iff
def rSortD {α : Type} (K : PySem.W.Frag) (R : DR α) (enc : α → PyData) : List V → Hp → VK → Prop := fun vs H Q => ∃ a xs as, vs = [.ref a] ∧ SqL K H a xs ∧ LR R H xs as ∧ Srt K H R enc as ∧
  ∀ p H' ys, H p = none → H' = upd H p (.lst ys) → LR R H ys (sortedBy enc as) → Q (.ref p) H'
theorem lift_vals {α : Type} {R : V → α → Prop} : ∀ {us : List Value} {as : List α}, PySem.W.EachIs (fun u a => ∃ v, RelV v u ∧ R v a) us as → ∃ ys, Vals ys us ∧ Paired R ys as
  | _, _, .nil => ⟨[], .nil, .nil⟩
  | _, _, .cons ⟨v, r1, r2⟩ t => by
    obtain ⟨ys, h1, h2⟩ := lift_vals t
    exact ⟨v :: ys, .cons r1 h1, .cons r2 h2⟩
theorem each_vals {α : Type} {R : V → α → Prop} : ∀ {xs : List V} {us : List Value} {as : List α}, Vals xs us → Paired R xs as → PySem.W.EachIs (fun u a => ∃ v, RelV v u ∧ R v a) us as
  | _, _, _, .nil, .nil => .nil
  | _, _, _, .cons r1 t1, .cons r2 t2 => .cons ⟨_, r1, r2⟩ (each_vals t1 t2)
theorem each_mem2 {α β : Type} {R : α → β → Prop} : ∀ {us : List α} {as : List β}, PySem.W.EachIs R us as → PySem.W.EachIs (fun u a => R u a ∧ a ∈ as) us as
  | _, _, .nil => .nil
  | _, _, .cons r t => .cons ⟨r, List.mem_cons_self ..⟩ ((each_mem2 t).mono fun _ _ h => ⟨h.1, List.mem_cons_of_mem _ h.2⟩)
section
variable {X : Cx}
theorem cr_sortD {α : Type} (R : DR α) (enc : α → PyData) (hu : X.A.units + 64 < cLine) : CallR X (.builtin "sorted") (rSortD X.K R enc) := by
  intro pins s σ H vs us Q I r h
  obtain ⟨a, xs, as, rfl, hs, hl, ⟨hd, hal, hso, hdp⟩, q⟩ := h
  obtain ⟨its, rv, hli, hz⟩ := I.list hs
  rw [Vals.ref1 r]
  have e := each_vals rv hl
  have er : PySem.W.EachIs (fun u a => ∃ as, Reads s.heap u (enc a) as) its as := (each_mem2 e).mono fun u a ⟨⟨v, r1, r2⟩, hm⟩ => Dp.reads I (enc a) v u (hd v a hm r2) r1
  have hlen : as.length ≤ sizeLine := by rw [← hl.length]; exact hz
  refine PySem.W.sorted_data hli.isList e er hal hso hlen (fun b hb => by have := hdp b hb; omega) fun out ho eo => ?_
  obtain ⟨ys, r1, r2⟩ := lift_vals eo
  obtain ⟨ep, he'⟩ := PyProof.Rows.sortedAll_at s.heap its (List.toArray out)
  have hlen2 : ys.length ≤ sizeLine := by rw [r1.length, ho]; exact hlen
  exact ⟨.ref _, upd H (s.heap.objs.size + 1) (.lst ys), I.laid (t' := s.toks) (fun _ _ => PyProof.Rows.sortedAll_old) (Nat.le_succ _) ⟨hlen2, out, ep, r1, he'⟩, rfl, q _ _ ys (I.hok.fresh (Nat.le_succ _)) rfl r2⟩
/-- list(d) -/
def rListL (P : Program) (w : World) : List V → Hp → VK → Prop := fun vs H Q => ∃ d kvs, vs = [.ref d] ∧ LRd P w H d kvs ∧ ∀ p, H p = none → Q (.ref p) (upd H p (.lst (kvs.map fun e => V.ref e.2.1)))
theorem vals_ents : ∀ kvs : List Ent, Vals (kvs.map fun e => V.ref e.2.1) (kvs.map fun e => Value.ref e.2.1)
  | [] => .nil
  | _ :: r => .cons rfl (vals_ents r)
theorem vals_keys {kvs : List Ent} {us : List Value} (hl : us.length = kvs.length) (h : ∀ (j : Nat) (v : Value), us[j]? = some v → ∃ e, kvs[j]? = some e ∧ v = .ref e.2.1) : us = kvs.map fun e => Value.ref e.2.1 := by
  refine List.ext_getElem? fun j => ?_
  rw [List.getElem?_map]
  cases e : us[j]? with
  | none =>
    have : kvs[j]? = none := by rw [List.getElem?_eq_none_iff] at e ⊢; omega
    rw [this]
    rfl
  | some v =>
    obtain ⟨e0, h1, h2⟩ := h j v e
    rw [h1, h2]
    rfl
theorem cr_listL (hc : X.calm = true) : CallR X (.type "list") (rListL X.prog X.w) := by
  intro pins s σ H vs us Q I r h
  obtain ⟨d, kvs, rfl, hd, q⟩ := h
  rw [Vals.ref1 r]
  have x := ld_rd hd I.hok
  obtain ⟨o, es, ep, ho, hx, hdat, hsz, ent⟩ := ld_raw x
  refine PySem.W.kdl_call (PySem.KdlSrc.rawDict (es := es) (ep := ep) x.2.1) (I.ok.hd hc) ⟨o, ho, hx, hdat⟩ (by rw [hsz]; exact x.1) fun h' tk acc c hk hD hacc => ?_
  have ei : acc.toList = kvs.map fun e => Value.ref e.2.1 := vals_keys (by rw [Array.length_toList, hacc.1, hsz]) fun j v e => by
    obtain ⟨hi, e2⟩ := hacc.2 j v (by rw [← Array.getElem?_toList]; exact e)
    obtain ⟨e0, he0⟩ : ∃ e0, kvs[j]? = some e0 := ⟨kvs[j]'(by omega), by simp [show j < kvs.length by omega]⟩
    obtain ⟨en, hen, hkey, _⟩ := ent j e0 he0
    rw [Array.getElem?_eq_getElem hi] at hen
    exact ⟨e0, he0, by rw [e2, Option.some.inj hen, hkey]⟩
  have hv : Vals (kvs.map fun e => V.ref e.2.1) acc.toList := by rw [ei]; exact vals_ents kvs
  refine ⟨.ref _, upd H s.heap.objs.size (.lst (kvs.map fun e => V.ref e.2.1)), I.laid (t' := tk) hk (Nat.le_refl _) ⟨by rw [List.length_map]; exact x.1, acc.toList, c, hv, by rw [Array.toArray_toList]; exact hD⟩, rfl, q _ (I.hok.fresh (Nat.le_refl _))⟩
/-- sorted(d) -/
def encLit (l : Lit) : PyData := .tuple [.str l.1, .bool l.2]
noncomputable def sortLits (ls : List Lit) : List Lit := sortedBy encLit ls
def rSortL (P : Program) (w : World) (K : PySem.W.Frag) : List V → Hp → VK → Prop := fun vs H Q => ∃ d kvs, vs = [.ref d] ∧ LOk P w K H d kvs ∧
  ∀ p H' ys, H p = none → H' = upd H p (.lst ys) → LR (rLit K) H ys (sortLits (kvs.map (·.1))) → Q (.ref p) H'
theorem dp_lit {K : PySem.W.Frag} {H : Hp} {v : V} {l : Lit} (h : rLit K H v l) : Dp K H v (encLit l) := by
  obtain ⟨a, rfl, ha⟩ := litB h
  exact .tup ha (.cons (.str _) (.cons (.bl _) .nil))
theorem alike_lits (ls : List Lit) : PySem.W.AllAlike (ls.map encLit) := PySem.W.AllAlike.of fun b b' => by simp [encLit, PySem.W.alike, PySem.W.alikeAll]
theorem sortable_lits (ls : List Lit) : PySem.W.Sortable (ls.map encLit) := PySem.W.Sortable.tuples fun b => ⟨_, _, rfl⟩
theorem depth_lit (l : Lit) : (encLit l).depth ≤ 8 := by simp [encLit, PyData.depth, PyData.depthAll]
theorem srt_lits (K : PySem.W.Frag) (H : Hp) (ls : List Lit) : Srt K H (rLit K) encLit ls := ⟨fun _ _ _ h => dp_lit h, alike_lits ls, sortable_lits ls, fun l _ => depth_lit l⟩
theorem lr_keys {K : PySem.W.Frag} {H : Hp} : ∀ {kvs : List Ent}, LKs K H kvs → LR (rLit K) H (kvs.map fun e => V.ref e.2.1) (kvs.map (·.1))
  | [], _ => .nil
  | e :: r, h => .cons ⟨e.2.1, _, _, rfl, h e (List.mem_cons_self ..), rfl, rfl⟩ (lr_keys fun p hp => h p (List.mem_cons_of_mem _ hp))
theorem dp_not_in {h : Heap} {u : Value} {l : Lit} {as : List Addr} (D : Addr) (hr : Reads h u (encLit l) as) (hn : ∀ a ∈ as, a ≠ D) : D ∉ as := fun m => hn D m rfl
theorem cr_sortL (hc : X.calm = true) (hu : X.A.units + 64 < cLine) : CallR X (.builtin "sorted") (rSortL X.prog X.w X.K) := by
  intro pins s σ H vs us Q I r h
  obtain ⟨d, kvs, rfl, ⟨hd, hk⟩, q⟩ := h
  rw [Vals.ref1 r]
  have x := ld_rd hd I.hok
  obtain ⟨o, es, ep, ho, hx, hdat, hsz, ent⟩ := ld_raw x
  refine Calls.call_function_entry PyProof.Rows.kind_sorted PyProof.Rows.plain_sorted PyProof.Rows.entry_sorted (PyProof.Rows.args_sorted1 _) ?_
  unfold Builtin.«sorted»
  refine wpAny_bind (m := checkCount "sorted" 1 1 _) (wpAny_pure ?_)
  refine wpAny_bind (PySem.W.kdu_collect (A := X.A.in1) (PySem.KdlSrc.rawDict (es := es) (ep := ep) x.2.1) (I.ok.hd hc) ⟨o, ho, hx, hdat⟩ (by rw [hsz]; exact x.1) fun h' tk acc hkp hacc => ?_)
  have ei : acc.toList = kvs.map fun e => Value.ref e.2.1 := vals_keys (by rw [Array.length_toList, hacc.1, hsz]) fun j v e => by
    obtain ⟨hi, e2⟩ := hacc.2 j v (by rw [← Array.getElem?_toList]; exact e)
    obtain ⟨e0, he0⟩ : ∃ e0, kvs[j]? = some e0 := ⟨kvs[j]'(by omega), by simp [show j < kvs.length by omega]⟩
    obtain ⟨en, hen, hkey, _⟩ := ent j e0 he0
    rw [Array.getElem?_eq_getElem hi] at hen
    exact ⟨e0, he0, by rw [e2, Option.some.inj hen, hkey]⟩
  have hv : Vals (kvs.map fun e => V.ref e.2.1) acc.toList := by rw [ei]; exact vals_ents kvs
  have I1 : Inv X pins σ H { s with heap := h', toks := tk } := I.kept hkp
  have hal : acc.toList.length ≤ sizeLine := by rw [ei, List.length_map]; exact x.1
  refine wpAny_bind (wpAny_newList ?_ hal)
  have hoL : (h'.push (seqObj "list" acc.toList.toArray 0)).get? h'.objs.size = some (seqObj "list" acc.toList.toArray 0) := Heap.get?_push_size _ rfl
  show wpAny _ _ _ _ _ { s with heap := h'.push (seqObj "list" acc.toList.toArray 0), toks := tk }
  have hn0 : H h'.objs.size = none := I1.hok.fresh (Nat.le_refl _)
  have e1 := each_vals hv (lr_keys hk)
  have I2 : Inv X pins σ H { s with heap := h'.push (seqObj "list" acc.toList.toArray 0), toks := tk } := I1.kept (t' := tk) fun b u e => Heap.get?_push_of_some _ e
  have er : PySem.W.EachIs (fun u l => ∃ as, Reads (h'.push (seqObj "list" acc.toList.toArray 0)) u (encLit l) as ∧ h'.objs.size ∉ as) acc.toList (kvs.map (·.1)) := e1.mono fun u l ⟨v, r1, r2⟩ => by
    obtain ⟨a, rfl, ha⟩ := litB r2
    obtain rfl : u = Value.ref a := r1
    obtain ⟨its, rv, ⟨ot, hot, hct, n, hdt⟩, _⟩ := I1.tuple ha
    have hlt : a < h'.objs.size := Heap.lt_size hot
    cases rv with
    | cons r3 rv =>
      cases rv with
      | cons r4 rv =>
        cases rv
        obtain ⟨t, rfl⟩ := r3
        obtain rfl := (show _ = Value.bool l.2 from r4)
        exact ⟨_, Reads.tuple (Heap.get?_push_of_some _ hot) hct hdt (.cons (.str _ _) (.cons (.bool _) .nil)), by simp⟩
  refine wpAny_bind (wpAny_holding (PySem.W.list_sort_data (s := { s with heap := h'.push (seqObj "list" acc.toList.toArray 0), toks := tk }) hoL e1 er (alike_lits _) (sortable_lits _) (by rw [List.length_map]; exact x.1) (fun l _ => by
    have := depth_lit l
    show X.A.units + 1 + 1 + _ < cLine
    omega) fun out ho2 eo => ?_))
  obtain ⟨ys, r1, r2⟩ := lift_vals eo
  obtain ⟨e', he'⟩ := PyProof.Rows.sortedHeap_at (vs := acc.toList) (out := List.toArray out) hoL
  have hlen : ys.length ≤ sizeLine := by rw [r1.length, ho2, List.length_map]; exact x.1
  refine wpAny_pure ⟨_, rfl, .ref h'.objs.size, upd H h'.objs.size (.lst ys), I1.laid (t' := tk) (fun b u e => ?_) (Nat.le_refl _)
    (show ObjOk X.prog X.w _ _ _ (.lst ys) from ⟨hlen, out, e', r1, he'⟩), rfl, q _ _ ys hn0 rfl r2⟩
  have hb : b < h'.objs.size := Heap.lt_size e
  rw [PyProof.Rows.sortedHeap_old (Nat.ne_of_lt hb) (by rw [size_push']; exact Nat.lt_succ_of_lt hb)]
  exact Heap.get?_push_of_some _ e
theorem cr_sortL' (P : Program) (w : World) (K : PySem.W.Frag) (hc : X.calm = true) (hu : X.A.units + 64 < cLine) (hP : X.prog = P := by rfl) (hw : X.w = w := by rfl) (hK : X.K = K := by rfl) : CallR X (.builtin "sorted") (rSortL P w K) := by
  subst hP hw hK
  exact cr_sortL hc hu
theorem cr_sortD' {α : Type} (K : PySem.W.Frag) (R : DR α) (enc : α → PyData) (hu : X.A.units + 64 < cLine) (hK : X.K = K := by rfl) : CallR X (.builtin "sorted") (rSortD K R enc) := by
  subst hK
  exact cr_sortD R enc hu
end
end K19

/-! ## K19P -/
set_option Elab.async false
set_option linter.all false
set_option maxRecDepth 100000
set_option maxHeartbeats 4000000
namespace K19
open PySem PySem.Spec PyProof.Rows L2 Evl
/-! ### xs == [], xs != [], two literals -/
def rEqNil (K : PySem.W.Frag) : R2 := fun x y H Q => ∃ a b xs, x = .ref a ∧ y = .ref b ∧ SqL K H a xs ∧ SqL K H b [] ∧ Q (.bl (decide (xs = []))) H
def rNeNil (K : PySem.W.Frag) : R2 := fun x y H Q => ∃ a b xs, x = .ref a ∧ y = .ref b ∧ SqL K H a xs ∧ SqL K H b [] ∧ Q (.bl (!decide (xs = []))) H
def rNeLit (K : PySem.W.Frag) : R2 := fun x y H Q => ∃ l m, rLit K H x l ∧ rLit K H y m ∧ Q (.bl (!decide (l = m))) H
section
variable {X : Cx}
theorem op_eqNil (K : PySem.W.Frag) (hu : X.A.units + 64 < cLine) (hK : X.K = K := by rfl) : OpR X (compareOp .Eq) (rEqNil K) := by
  subst hK
  intro pins s σ H x y v u Q I rx ry h
  obtain ⟨a, b, xs, rfl, rfl, ha, hb, q⟩ := h
  obtain rfl : v = Value.ref a := rx
  obtain rfl : u = Value.ref b := ry
  obtain ⟨us, r1, p1, _⟩ := I.list ha
  obtain ⟨ws, r2, p2, _⟩ := I.list hb
  cases r2
  cases r1 with
  | nil => exact SeqAt.eq_listAt (e := fun _ => true) p1.isList p2.isList rfl (by omega) (fun j h1 h2 => absurd h1 (by simp)) ⟨.bl true, H, I, rfl, by rw [decide_eq_true rfl] at q; exact q⟩
  | cons r t => exact SeqAt.eq_list_lengthsAt p1.isList p2.isList (by simp) (by omega) ⟨.bl false, H, I, rfl, by rw [decide_eq_false (by simp)] at q; exact q⟩
theorem op_neNil (K : PySem.W.Frag) (hu : X.A.units + 64 < cLine) (hK : X.K = K := by rfl) : OpR X (compareOp .NotEq) (rNeNil K) := by
  subst hK
  intro pins s σ H x y v u Q I rx ry h
  obtain ⟨a, b, xs, rfl, rfl, ha, hb, q⟩ := h
  obtain rfl : v = Value.ref a := rx
  obtain rfl : u = Value.ref b := ry
  obtain ⟨us, r1, p1, _⟩ := I.list ha
  obtain ⟨ws, r2, p2, _⟩ := I.list hb
  cases r2
  cases r1 with
  | nil => exact SeqAt.RcNeAt.lists (e := fun _ => true) p1.isList p2.isList rfl (by omega) (fun j h1 h2 => absurd h1 (by simp)) _ _ _ _ ⟨.bl false, H, I, rfl, by rw [decide_eq_true rfl] at q; exact q⟩
  | cons r t => exact SeqAt.RcNeAt.lists_lengths p1.isList p2.isList (by simp) (by omega) _ _ _ _ ⟨.bl true, H, I, rfl, by rw [decide_eq_false (by simp)] at q; exact q⟩
theorem op_neLit (K : PySem.W.Frag) (hu : X.A.units + 64 < cLine) (hK : X.K = K := by rfl) : OpR X (compareOp .NotEq) (rNeLit K) := by
  subst hK
  intro pins s σ H x y v u Q I rx ry h
  obtain ⟨l, m, hl, hm, q⟩ := h
  obtain ⟨a, rfl, ha⟩ := litB hl
  obtain ⟨b, rfl, hb⟩ := litB hm
  obtain rfl : v = Value.ref a := rx
  obtain rfl : u = Value.ref b := ry
  obtain ⟨us, r1, p1, _⟩ := I.tuple ha
  obtain ⟨ws, r2, p2, _⟩ := I.tuple hb
  cases r1 with
  | cons e1 r1 =>
    cases r1 with
    | cons e2 r1 =>
      cases r1
      cases r2 with
      | cons f1 r2 =>
        cases r2 with
        | cons f2 r2 =>
          cases r2
          obtain ⟨t1, rfl⟩ := e1
          obtain ⟨t2, rfl⟩ := f1
          obtain rfl := (show _ = Value.bool l.2 from e2)
          obtain rfl := (show _ = Value.bool m.2 from f2)
          refine SeqAt.RcNeAt.tuples (e := fun j => if j = 0 then l.1 == m.1 else l.2 == m.2) p1 p2 (by omega) (fun j h1 h2 => ?_) _ _ _ _ ⟨.bl _, H, I, rfl, ?_⟩
          · match j, h1, h2 with
            | 0, _, _ => exact SeqAt.EqAt.str_str _ _ _ _
            | 1, _, _ => exact SeqAt.EqAt.bool_bool _ _
          · have e : (!decide (l = m)) = (!((List.range (min #[Value.str l.1 t1, Value.bool l.2].size #[Value.str m.1 t2, Value.bool m.2].size)).all (fun j => if j = 0 then l.1 == m.1 else l.2 == m.2) && #[Value.str l.1 t1, Value.bool l.2].size == #[Value.str m.1 t2, Value.bool m.2].size)) := by
              show (!decide (l = m)) = (!(((l.1 == m.1) && ((l.2 == m.2) && true)) && true))
              obtain ⟨x, p⟩ := l
              obtain ⟨y, r⟩ := m
              by_cases e1 : x = y <;> by_cases e2 : p = r <;> simp [e1, e2]
            rw [← e]
            exact q
end
/-! ### a dict display of one pair -/
def tLDisp (P : Program) (w : World) (K : PySem.W.Frag) (tk tv : TE) : TE := fun σ H Q => ∀ p, H p = none → tk σ (upd H p (LD P w p [])) fun y H1 => tv σ H1 fun z H2 => ∃ l a, y = .ref a ∧ SqT K H2 a [.str l.1, .bl l.2] ∧ H2 p = some (LD P w p []) ∧ Q (.ref p) (upd H2 p (LD P w p [(l, a, z)]))
theorem pe_ldisp {X : Cx} {pos : Pos} {k v : Expr} {tk tv : TE} (hu : X.A.units + 1 < cLine) (hk : PE X k tk) (hv : PE X v tv) : PE X (.Dict [some k] [v] pos) (tLDisp X.prog X.w X.K tk tv) := by
  refine ⟨fun pins s σ H Q I q => ?_⟩
  have hn := I.hok.fresh (Nat.le_refl s.heap.objs.size)
  have I1 := I.laid (a := s.heap.objs.size) (o := LD X.prog X.w s.heap.objs.size []) (h' := s.heap.push { cls := .type "dict", data := .dict #[] }) (t' := s.toks) (fun _ _ q => Heap.get?_push_of_some _ q) (Nat.le_refl _) (ld_empty s.heap I.big)
  refine wpAny_Dict_any rfl rfl (by simp) (by show 1 ≤ 15; decide) (pairTrees_cons_walk (thn (hk.run pins _ σ _ _ I1 (q _ hn)) fun yv s1 ⟨y, H1, I2, ry, q1⟩ => thn (hv.run pins s1 σ H1 _ I2 q1) fun zv s2 ⟨z, H2, I3, rz, l, a, ey, ha, hp, q2⟩ => pairTrees_nil_walk ?_))
  subst ey
  obtain rfl : yv = Value.ref a := ry
  unfold storeAll
  rw [List.forIn_cons]
  refine wpAny_bind (wpAny_bind (l_dictSet hu I3 ha hp (fun _ h => nomatch h) (by decide) rz fun s3 I4 => wpAny_pure ?_))
  exact wpAny_pure ⟨.ref _, _, I4, rfl, q2⟩
end K19

/-! ## K19G -/
set_option Elab.async false
set_option linter.all false
set_option maxRecDepth 100000
set_option maxHeartbeats 4000000
namespace K19
open PySem
/-! ### the mirror of the graph: plain lists -/
def litsN (ns : List Str) : List Lit := ns.flatMap fun n => [(n, false), (n, true)]
def addL (xs : List Lit) (b : Lit) : List Lit := if b ∈ xs then xs else xs ++ [b]
def addE (E : Lit → List Lit) (a b : Lit) : Lit → List Lit := fun l => if l = a then addL (E l) b else E l
def addC (E : Lit → List Lit) (c : Clause) : Lit → List Lit := addE (addE E (neg (litsOf c).1) (litsOf c).2) (neg (litsOf c).2) (litsOf c).1
def edgesOf (cs : List Clause) : Lit → List Lit := cs.foldl addC (fun _ => [])
noncomputable def succOf (cs : List Clause) (l : Lit) : List Lit := sortLits (edgesOf cs l)
theorem mem_addL {xs : List Lit} {a b : Lit} : a ∈ addL xs b ↔ a ∈ xs ∨ a = b := by
  unfold addL
  split
  · rename_i h
    constructor
    · exact .inl
    · rintro (h1 | rfl)
      · exact h1
      · exact h
  · simp
theorem mem_addE {E : Lit → List Lit} {a b l m : Lit} : m ∈ addE E a b l ↔ m ∈ E l ∨ (l = a ∧ m = b) := by
  unfold addE
  split
  · rename_i h
    rw [mem_addL]
    simp [h]
  · rename_i h
    simp [h]
theorem neg_inj {a b : Lit} (h : neg a = neg b) : a = b := by rw [← neg_neg a, h, neg_neg]
theorem neg_eq {a b : Lit} : neg a = b ↔ a = neg b := ⟨fun h => by rw [← h, neg_neg], fun h => by rw [h, neg_neg]⟩
def SymE (E : Lit → List Lit) : Prop := ∀ a b, b ∈ E a → neg a ∈ E (neg b)
theorem sym_addC {E : Lit → List Lit} {c : Clause} (h : SymE E) : SymE (addC E c) := fun a b hm => by
  unfold addC at hm ⊢
  rw [mem_addE, mem_addE] at hm ⊢
  rcases hm with (hm | ⟨rfl, rfl⟩) | ⟨rfl, rfl⟩
  · exact .inl (.inl (h a b hm))
  · exact .inr ⟨rfl, neg_neg _⟩
  · exact .inl (.inr ⟨rfl, neg_neg _⟩)
theorem sym_fold : ∀ {cs : List Clause} {E : Lit → List Lit}, SymE E → SymE (cs.foldl addC E)
  | [], _, h => h
  | _ :: r, _, h => sym_fold (cs := r) (sym_addC h)
theorem sym_edges (cs : List Clause) : SymE (edgesOf cs) := sym_fold fun _ _ h => nomatch h
theorem mem_succ {cs : List Clause} {a b : Lit} : b ∈ succOf cs a ↔ b ∈ edgesOf cs a := sortedBy_mem
theorem sym_succ (cs : List Clause) : SymE (succOf cs) := fun a b h => mem_succ.mpr (sym_edges cs a b (mem_succ.mp h))
theorem mem_litsN {ns : List Str} {l : Lit} : l ∈ litsN ns ↔ l.1 ∈ ns := by
  obtain ⟨x, p⟩ := l
  unfold litsN
  simp only [List.mem_flatMap, List.mem_cons, Prod.mk.injEq, List.not_mem_nil, or_false]
  constructor
  · rintro ⟨n, hn, h | h⟩ <;> (rw [h.1]; exact hn)
  · intro h
    refine ⟨x, h, ?_⟩
    cases p <;> simp
theorem litsN_len (ns : List Str) : (litsN ns).length = 2 * ns.length := by
  induction ns with
  | nil => rfl
  | cons n r ih =>
    have e : litsN (n :: r) = [(n, false), (n, true)] ++ litsN r := rfl
    rw [e, List.length_append, ih]
    simp
    omega
theorem lits_ok {ns : List Str} {c : Clause} (h : ClOk ns c) : (litsOf c).1 ∈ litsN ns ∧ (litsOf c).2 ∈ litsN ns := by
  obtain ⟨_, h2, h3⟩ := h
  unfold litsOf
  split <;> exact ⟨mem_litsN.mpr h2, mem_litsN.mpr h3⟩
theorem neg_in {ns : List Str} {l : Lit} (h : l ∈ litsN ns) : neg l ∈ litsN ns := mem_litsN.mpr (show l.1 ∈ ns from mem_litsN.mp h)
def InE (ns : List Str) (E : Lit → List Lit) : Prop := ∀ a b, b ∈ E a → b ∈ litsN ns
theorem in_fold {ns : List Str} : ∀ {cs : List Clause} {E : Lit → List Lit}, (∀ c ∈ cs, ClOk ns c) → InE ns E → InE ns (cs.foldl addC E)
  | [], _, _, h => h
  | c :: r, E, hc, h => in_fold (cs := r) (fun x hx => hc x (List.mem_cons_of_mem _ hx)) fun a b hm => by
    have k := lits_ok (hc c (List.mem_cons_self ..))
    unfold addC at hm
    rw [mem_addE, mem_addE] at hm
    rcases hm with (hm | ⟨_, rfl⟩) | ⟨_, rfl⟩
    · exact h a b hm
    · exact k.2
    · exact k.1
theorem in_succ {ns : List Str} {cs : List Clause} (h : ∀ c ∈ cs, ClOk ns c) : InE ns (succOf cs) := fun a b hm => in_fold (E := fun _ => []) h (fun _ _ h => absurd h List.not_mem_nil) a b (mem_succ.mp hm)
/-! ### steps repeated -/
def iterN {α : Type} (f : α → α) : Nat → α → α
  | 0, a => a
  | n + 1, a => f (iterN f n a)
theorem iterN_fix {α : Type} {f : α → α} {a : α} {n : Nat} (h : f (iterN f n a) = iterN f n a) : ∀ {m : Nat}, n ≤ m → iterN f m a = iterN f n a
  | 0, hm => by rw [Nat.le_zero.mp hm]
  | m + 1, hm => by
    rcases Nat.lt_or_eq_of_le hm with hlt | rfl
    · show f (iterN f m a) = _
      rw [iterN_fix h (Nat.le_of_lt_succ hlt), h]
    · rfl
@[irreducible] def fuel : Nat := 1000
/-! ### reachable -/
abbrev RS := List Lit × List Lit
def pushR (s : RS) (m : Lit) : RS := if m ∈ s.1 then s else (s.1 ++ [m], s.2 ++ [m])
def reachStep (S : Lit → List Lit) (s : RS) : RS := match s.2.getLast? with
  | none => s
  | some x => (S x).foldl pushR (s.1, s.2.dropLast)
def reachOf (S : Lit → List Lit) (l0 : Lit) : List Lit := (iterN (reachStep S) fuel ([l0], [l0])).1
def Uok (U : List Lit) (S : Lit → List Lit) : Prop := (∀ a b, b ∈ S a → b ∈ U) ∧ U.length ≤ 40 ∧ ∀ a, (S a).length ≤ 400
structure ROk (U : List Lit) (s : RS) : Prop where
  nd : s.1.Nodup
  sub : ∀ l ∈ s.1, l ∈ U
  pen : ∀ l ∈ s.2, l ∈ s.1
  len : s.2.length ≤ s.1.length
theorem nodup_le {α : Type} [DecidableEq α] : ∀ {xs ys : List α}, xs.Nodup → (∀ x ∈ xs, x ∈ ys) → xs.length ≤ ys.length
  | [], _, _, _ => Nat.zero_le _
  | x :: r, ys, hn, hs => by
    rw [List.nodup_cons] at hn
    have hx := hs x (List.mem_cons_self ..)
    have h := nodup_le (xs := r) (ys := ys.erase x) hn.2 fun y hy => (List.mem_erase_of_ne (fun e => hn.1 (by rw [← e]; exact hy))).mpr (hs y (List.mem_cons_of_mem _ hy))
    rw [List.length_erase_of_mem hx] at h
    have : 0 < ys.length := List.length_pos_of_mem hx
    show r.length + 1 ≤ _
    omega
theorem ROk.le {U : List Lit} {s : RS} (h : ROk U s) : s.1.length ≤ U.length := nodup_le h.nd h.sub
theorem rok_push {U : List Lit} {s : RS} {m : Lit} (h : ROk U s) (hm : m ∈ U) : ROk U (pushR s m) ∧ 2 * (U.length - (pushR s m).1.length) + (pushR s m).2.length ≤ 2 * (U.length - s.1.length) + s.2.length := by
  unfold pushR
  split
  · exact ⟨h, Nat.le_refl _⟩
  · rename_i hn
    have h2 : ROk U (s.1 ++ [m], s.2 ++ [m]) := ⟨by
      show (s.1 ++ [m]).Nodup
      rw [List.nodup_append]
      exact ⟨h.nd, by simp, fun a ha b hb => by simp at hb; subst hb; exact fun e => hn (e ▸ ha)⟩, fun l hl => by
      rcases List.mem_append.mp hl with hl | hl
      · exact h.sub l hl
      · simp at hl; subst hl; exact hm, fun l hl => by
      rcases List.mem_append.mp hl with hl | hl
      · exact List.mem_append_left _ (h.pen l hl)
      · exact List.mem_append_right _ hl, by have := h.len; simp; omega⟩
    refine ⟨h2, ?_⟩
    have := h2.le
    simp at this ⊢
    omega
theorem rok_fold {U : List Lit} : ∀ {ms : List Lit} {s : RS}, ROk U s → (∀ m ∈ ms, m ∈ U) → ROk U (ms.foldl pushR s) ∧ 2 * (U.length - (ms.foldl pushR s).1.length) + (ms.foldl pushR s).2.length ≤ 2 * (U.length - s.1.length) + s.2.length
  | [], s, h, _ => ⟨h, Nat.le_refl _⟩
  | m :: r, s, h, hm => by
    obtain ⟨h1, h2⟩ := rok_push h (hm m (List.mem_cons_self ..))
    obtain ⟨h3, h4⟩ := rok_fold (ms := r) h1 fun x hx => hm x (List.mem_cons_of_mem _ hx)
    exact ⟨h3, Nat.le_trans h4 h2⟩
theorem rok_pop {U : List Lit} {s : RS} (h : ROk U s) : ROk U (s.1, s.2.dropLast) := ⟨h.nd, h.sub, fun l hl => h.pen l (List.dropLast_subset _ hl), by have := h.len; simp; omega⟩
def muR (U : List Lit) (s : RS) : Nat := 2 * (U.length - s.1.length) + s.2.length
theorem rok_step {U : List Lit} {S : Lit → List Lit} {s : RS} {x : Lit} (hU : Uok U S) (h : ROk U s) (hx : s.2.getLast? = some x) : ROk U (reachStep S s) ∧ muR U (reachStep S s) < muR U s := by
  unfold reachStep
  rw [hx]
  obtain ⟨h1, h2⟩ := rok_fold (ms := S x) (rok_pop h) (fun m hm => hU.1 x m hm)
  refine ⟨h1, ?_⟩
  unfold muR
  have : 0 < s.2.length := by
    cases e : s.2 with
    | nil => rw [e] at hx; cases hx
    | cons a r => simp
  simp only [List.length_dropLast] at h2
  show 2 * (U.length - ((S x).foldl pushR (s.1, s.2.dropLast)).1.length) + ((S x).foldl pushR (s.1, s.2.dropLast)).2.length < _
  omega
theorem reachStep_nil {S : Lit → List Lit} {s : RS} (h : s.2 = []) : reachStep S s = s := by
  unfold reachStep
  rw [h]
  rfl
theorem reach_done {S : Lit → List Lit} {l0 : Lit} {i : Nat} (hi : i ≤ fuel) (h : (iterN (reachStep S) i ([l0], [l0])).2 = []) : reachOf S l0 = (iterN (reachStep S) i ([l0], [l0])).1 := by
  unfold reachOf
  rw [iterN_fix (n := i) (reachStep_nil h) hi]
theorem rok_start {U : List Lit} {l0 : Lit} (h : l0 ∈ U) : ROk U ([l0], [l0]) := ⟨by simp, fun l hl => by simp at hl; subst hl; exact h, fun l hl => hl, Nat.le_refl _⟩
/-! ### distances -/
abbrev DL := List (Lit × Int)
def dget (D : DL) (l : Lit) : Option Int := (D.find? fun p => decide (p.1 = l)).map (·.2)
def bfsPut (d : Int) (s : DL × List Lit) (m : Lit) : DL × List Lit := if (dget s.1 m).isSome then s else (s.1 ++ [(m, d + 1)], s.2 ++ [m])
def bfsLit (S : Lit → List Lit) (s : DL × List Lit) (l : Lit) : DL × List Lit := (S l).foldl (bfsPut ((dget s.1 l).getD 0)) s
def bfsStep (S : Lit → List Lit) (s : DL × List Lit) : DL × List Lit := s.2.foldl (bfsLit S) (s.1, [])
def distOf (S : Lit → List Lit) (g : Lit) : DL := (iterN (bfsStep S) fuel ([(g, 0)], [g])).1
def negD (D : DL) : DL := D.map fun e => (neg e.1, e.2)
theorem dget_mem {D : DL} {l : Lit} {d : Int} (h : dget D l = some d) : (l, d) ∈ D := by
  unfold dget at h
  obtain ⟨p, hp, e⟩ := Option.map_eq_some_iff.mp h
  have h1 := List.mem_of_find?_eq_some hp
  have h2 := List.find?_some hp
  simp at h2
  rw [← h2, ← e]
  exact h1
theorem dget_of {D : DL} {l : Lit} {d : Int} (hn : (D.map (·.1)).Nodup) (h : (l, d) ∈ D) : dget D l = some d := by
  induction D with
  | nil => exact nomatch h
  | cons p r ih =>
    rw [List.map_cons, List.nodup_cons] at hn
    unfold dget
    rcases List.mem_cons.mp h with rfl | h
    · rw [List.find?_cons_of_pos (by simp)]
      rfl
    · have ne : p.1 ≠ l := fun e => hn.1 (by rw [e]; exact List.mem_map.mpr ⟨(l, d), h, rfl⟩)
      rw [List.find?_cons_of_neg (by simpa using ne)]
      exact ih hn.2 h
theorem dget_none {D : DL} {l : Lit} : dget D l = none ↔ l ∉ D.map (·.1) := by
  unfold dget
  rw [Option.map_eq_none_iff, List.find?_eq_none]
  constructor
  · intro h hm
    obtain ⟨p, hp, e⟩ := List.mem_map.mp hm
    exact h p hp (by simpa using e)
  · intro h p hp e
    exact h (List.mem_map.mpr ⟨p, hp, by simpa using e⟩)
theorem dget_app {D : DL} {l m : Lit} {d e : Int} (h : dget D l = some d) : dget (D ++ [(m, e)]) l = some d := by
  unfold dget at h ⊢
  rw [List.find?_append]
  obtain ⟨p, hp, e⟩ := Option.map_eq_some_iff.mp h
  rw [hp]
  simpa using e
structure BOk (U : List Lit) (S : Lit → List Lit) (g : Lit) (D : DL) : Prop where
  nd : (D.map (·.1)).Nodup
  sub : ∀ p ∈ D, p.1 ∈ U
  bd : ∀ p ∈ D, 0 ≤ p.2 ∧ p.2 < D.length
  pre : ∀ p ∈ D, (p.1 = g ∧ p.2 = 0) ∨ (1 ≤ p.2 ∧ ∃ q, (q, p.2 - 1) ∈ D ∧ p.1 ∈ S q)
theorem BOk.le {U : List Lit} {S : Lit → List Lit} {g : Lit} {D : DL} (h : BOk U S g D) : D.length ≤ U.length := by
  have z := nodup_le (ys := U) h.nd fun l hl => by
    obtain ⟨p, hp, rfl⟩ := List.mem_map.mp hl
    exact h.sub p hp
  simpa using z
theorem bok_new {U : List Lit} {S : Lit → List Lit} {g : Lit} {D : DL} {l m : Lit} {d : Int} (h : BOk U S g D) (hm : m ∈ U) (hl : dget D l = some d) (hs : m ∈ S l) (hn : dget D m = none) : BOk U S g (D ++ [(m, d + 1)]) := by
  have hld := dget_mem hl
  have hb := h.bd _ hld
  refine ⟨?_, fun p hp => ?_, fun p hp => ?_, fun p hp => ?_⟩
  · rw [List.map_append, List.nodup_append]
    refine ⟨h.nd, by simp, fun a ha b hb => ?_⟩
    simp at hb
    subst hb
    exact fun e => dget_none.mp hn (e ▸ ha)
  · rcases List.mem_append.mp hp with hp | hp
    · exact h.sub p hp
    · simp at hp; subst hp; exact hm
  · have el : (D ++ [(m, d + 1)]).length = D.length + 1 := by simp
    rw [el]
    rcases List.mem_append.mp hp with hp | hp
    · have := h.bd p hp
      omega
    · simp at hp
      subst hp
      simp only at hb ⊢
      omega
  · rcases List.mem_append.mp hp with hp | hp
    · rcases h.pre p hp with k | ⟨k1, q, k2, k3⟩
      · exact .inl k
      · exact .inr ⟨k1, q, List.mem_append_left _ k2, k3⟩
    · simp at hp
      subst hp
      refine .inr ⟨by simp only at hb ⊢; omega, l, List.mem_append_left _ ?_, hs⟩
      have e : d + 1 - 1 = d := by omega
      show (l, d + 1 - 1) ∈ D
      rw [e]
      exact hld
/-- the inner loop -/
structure BSt (U : List Lit) (S : Lit → List Lit) (g : Lit) (s : DL × List Lit) : Prop where
  ok : BOk U S g s.1
  lv : ∀ l ∈ s.2, (dget s.1 l).isSome = true
theorem bst_put {U : List Lit} {S : Lit → List Lit} {g l m : Lit} {d : Int} {s : DL × List Lit} (hU : Uok U S) (h : BSt U S g s) (hl : dget s.1 l = some d) (hm : m ∈ S l) :
    BSt U S g (bfsPut d s m) ∧ dget (bfsPut d s m).1 l = some d ∧ (∀ x, (dget s.1 x).isSome = true → dget (bfsPut d s m).1 x = dget s.1 x) ∧ s.1.length ≤ (bfsPut d s m).1.length ∧ (bfsPut d s m).2.length + s.1.length = s.2.length + (bfsPut d s m).1.length := by
  unfold bfsPut
  split
  · exact ⟨h, hl, fun _ _ => rfl, Nat.le_refl _, rfl⟩
  · rename_i hn
    have hn' : dget s.1 m = none := by
      cases e : dget s.1 m with
      | none => rfl
      | some v => rw [e] at hn; exact absurd rfl hn
    refine ⟨⟨bok_new h.ok (hU.1 l m hm) hl hm hn', fun x hx => ?_⟩, dget_app hl, fun x hx => ?_, by simp, by simp; omega⟩
    · rcases List.mem_append.mp hx with hx | hx
      · obtain ⟨v, hv⟩ := Option.isSome_iff_exists.mp (h.lv x hx)
        show (dget (s.1 ++ [(m, d + 1)]) x).isSome = true
        rw [dget_app hv]
        rfl
      · simp at hx
        subst hx
        have := dget_of (bok_new h.ok (hU.1 l x hm) hl hm hn').nd (l := x) (d := d + 1) (by simp)
        show (dget (s.1 ++ [(x, d + 1)]) x).isSome = true
        rw [this]
        rfl
    · obtain ⟨v, hv⟩ := Option.isSome_iff_exists.mp hx
      show dget (s.1 ++ [(m, d + 1)]) x = _
      rw [dget_app hv, hv]
structure Grow (s t : DL × List Lit) : Prop where
  keep : ∀ x, (dget s.1 x).isSome = true → dget t.1 x = dget s.1 x
  le : s.1.length ≤ t.1.length
  eq : t.2.length + s.1.length = s.2.length + t.1.length
theorem Grow.refl (s : DL × List Lit) : Grow s s := ⟨fun _ _ => rfl, Nat.le_refl _, rfl⟩
theorem Grow.trans {s t u : DL × List Lit} (a : Grow s t) (b : Grow t u) : Grow s u := ⟨fun x hx => by
  have e := a.keep x hx
  rw [b.keep x (by rw [e]; exact hx), e], Nat.le_trans a.le b.le, by have := a.eq; have := b.eq; omega⟩
theorem bst_fold {U : List Lit} {S : Lit → List Lit} {g l : Lit} {d : Int} (hU : Uok U S) : ∀ {ms : List Lit} {s : DL × List Lit}, BSt U S g s → dget s.1 l = some d → (∀ m ∈ ms, m ∈ S l) → BSt U S g (ms.foldl (bfsPut d) s) ∧ Grow s (ms.foldl (bfsPut d) s)
  | [], s, h, _, _ => ⟨h, Grow.refl s⟩
  | m :: r, s, h, hl, hm => by
    obtain ⟨h1, h2, h3, h4, h5⟩ := bst_put hU h hl (hm m (List.mem_cons_self ..))
    obtain ⟨k1, k2⟩ := bst_fold hU (ms := r) h1 h2 fun x hx => hm x (List.mem_cons_of_mem _ hx)
    exact ⟨k1, Grow.trans ⟨h3, h4, h5⟩ k2⟩
theorem bst_lit {U : List Lit} {S : Lit → List Lit} {g l : Lit} {s : DL × List Lit} (hU : Uok U S) (h : BSt U S g s) (hl : (dget s.1 l).isSome = true) : BSt U S g (bfsLit S s l) ∧ Grow s (bfsLit S s l) := by
  obtain ⟨v, hv⟩ := Option.isSome_iff_exists.mp hl
  unfold bfsLit
  rw [hv]
  exact bst_fold hU h hv fun _ h => h
theorem bst_lits {U : List Lit} {S : Lit → List Lit} {g : Lit} (hU : Uok U S) : ∀ {ls : List Lit} {s : DL × List Lit}, BSt U S g s → (∀ l ∈ ls, (dget s.1 l).isSome = true) → BSt U S g (ls.foldl (bfsLit S) s) ∧ Grow s (ls.foldl (bfsLit S) s)
  | [], s, h, _ => ⟨h, Grow.refl s⟩
  | l :: r, s, h, hl => by
    obtain ⟨h1, h2⟩ := bst_lit hU h (hl l (List.mem_cons_self ..))
    obtain ⟨k1, k2⟩ := bst_lits hU (ls := r) h1 fun x hx => by
      rw [h2.keep x (hl x (List.mem_cons_of_mem _ hx))]
      exact hl x (List.mem_cons_of_mem _ hx)
    exact ⟨k1, h2.trans k2⟩
theorem bst_step {U : List Lit} {S : Lit → List Lit} {g : Lit} {s : DL × List Lit} (hU : Uok U S) (h : BSt U S g s) : BSt U S g (bfsStep S s) ∧ Grow (s.1, []) (bfsStep S s) := bst_lits hU (s := (s.1, [])) ⟨h.ok, fun _ h => nomatch h⟩ h.lv
def muB (U : List Lit) (s : DL × List Lit) : Nat := 2 * (U.length - s.1.length) + s.2.length
theorem bst_mu {U : List Lit} {S : Lit → List Lit} {g : Lit} {s : DL × List Lit} (hU : Uok U S) (h : BSt U S g s) (hn : s.2 ≠ []) : muB U (bfsStep S s) < muB U s := by
  obtain ⟨h1, h2⟩ := bst_step hU h
  have e := h2.eq
  have l1 := h1.ok.le
  have l2 := h2.le
  have : 0 < s.2.length := List.length_pos_iff.mpr hn
  unfold muB
  simp only [List.length_nil] at e l2
  omega
theorem bfsStep_nil {S : Lit → List Lit} {s : DL × List Lit} (h : s.2 = []) : bfsStep S s = s := by
  unfold bfsStep
  rw [h]
  show (s.1, []) = s
  rw [← h]
theorem dist_done {S : Lit → List Lit} {g : Lit} {i : Nat} (hi : i ≤ fuel) (h : (iterN (bfsStep S) i ([(g, 0)], [g])).2 = []) : distOf S g = (iterN (bfsStep S) i ([(g, 0)], [g])).1 := by
  unfold distOf
  rw [iterN_fix (n := i) (bfsStep_nil h) hi]
theorem bst_start {U : List Lit} {S : Lit → List Lit} {g : Lit} (h : g ∈ U) : BSt U S g ([(g, 0)], [g]) := ⟨⟨by simp, fun p hp => by simp at hp; subst hp; exact h, fun p hp => by simp at hp; subst hp; simp, fun p hp => by simp at hp; subst hp; exact .inl ⟨rfl, rfl⟩⟩, fun l hl => by simp at hl; subst hl; simp [dget]⟩
theorem bst_iter {U : List Lit} {S : Lit → List Lit} {g : Lit} (hU : Uok U S) (h : g ∈ U) : ∀ i, BSt U S g (iterN (bfsStep S) i ([(g, 0)], [g]))
  | 0 => bst_start h
  | i + 1 => (bst_step hU (bst_iter hU h i)).1
theorem bok_dist {U : List Lit} {S : Lit → List Lit} {g : Lit} (hU : Uok U S) (h : g ∈ U) : BOk U S g (distOf S g) := (bst_iter hU h fuel).ok
/-! ### a shortest chain -/
theorem negD_nd {D : DL} (h : (D.map (·.1)).Nodup) : ((negD D).map (·.1)).Nodup := by
  have e : (negD D).map (·.1) = (D.map (·.1)).map neg := by unfold negD; simp
  rw [e]
  exact List.Pairwise.map _ (fun a b hab e => hab (neg_inj e)) h
theorem dget_negD {D : DL} {l : Lit} : dget (negD D) l = dget D (neg l) := by
  unfold dget negD
  rw [List.find?_map, Option.map_map]
  have e : ((fun p : Lit × Int => decide (p.1 = l)) ∘ fun e : Lit × Int => (neg e.1, e.2)) = fun p : Lit × Int => decide (p.1 = neg l) := by
    funext p
    show decide (neg p.1 = l) = decide (p.1 = neg l)
    rw [Bool.eq_iff_iff]
    simp [neg_eq]
  rw [e]
  rfl
def closerOf (S : Lit → List Lit) (Dn : DL) (x : Lit) : List Lit := (S x).filter fun l => decide ((dget Dn l).getD (-1) = (dget Dn x).getD 0 - 1)
def chainStep (S : Lit → List Lit) (Dn : DL) (goal : Lit) (r : List Lit) : List Lit := match r.getLast? with
  | none => r
  | some x => if x = goal then r else r ++ [(closerOf S Dn x).headD x]
def chainOf (S : Lit → List Lit) (start goal : Lit) : Option (List Lit) := if (dget (negD (distOf S (neg goal))) start).isSome then some (iterN (chainStep S (negD (distOf S (neg goal))) goal) fuel [start]) else none
/-- a step exists, and it is closer -/
theorem closer_ok {U : List Lit} {S : Lit → List Lit} {goal x : Lit} {d : Int} (hU : Uok U S) (hs : SymE S) (hg : neg goal ∈ U) (hx : dget (negD (distOf S (neg goal))) x = some d) (hne : x ≠ goal) :
    1 ≤ d ∧ ∃ c r, closerOf S (negD (distOf S (neg goal))) x = c :: r ∧ dget (negD (distOf S (neg goal))) c = some (d - 1) := by
  have B := bok_dist hU hg
  rw [dget_negD] at hx
  rcases B.pre _ (dget_mem hx) with ⟨h1, _⟩ | ⟨h1, q, h2, h3⟩
  · exact absurd (neg_inj h1) hne
  · refine ⟨h1, ?_⟩
    simp only at h1 h2 h3
    have m1 : neg q ∈ S x := by
      have z := hs q (neg x) h3
      rw [neg_neg] at z
      exact z
    have m2 : dget (negD (distOf S (neg goal))) (neg q) = some (d - 1) := by
      rw [dget_negD, neg_neg]
      exact dget_of B.nd h2
    have m3 : dget (negD (distOf S (neg goal))) x = some d := by rw [dget_negD]; exact hx
    have m4 : neg q ∈ closerOf S (negD (distOf S (neg goal))) x := by
      unfold closerOf
      rw [List.mem_filter]
      exact ⟨m1, by rw [m2, m3]; simp⟩
    cases e : closerOf S (negD (distOf S (neg goal))) x with
    | nil => rw [e] at m4; exact nomatch m4
    | cons c r =>
      refine ⟨c, r, rfl, ?_⟩
      have hc : c ∈ closerOf S (negD (distOf S (neg goal))) x := by rw [e]; exact List.mem_cons_self ..
      unfold closerOf at hc
      have z := (List.mem_filter.mp hc).2
      rw [m3] at z
      simp at z
      cases e2 : dget (negD (distOf S (neg goal))) c with
      | none => rw [e2] at z; simp at z; omega
      | some v => rw [e2] at z; simp at z; rw [z]
theorem chainStep_goal {S : Lit → List Lit} {Dn : DL} {goal : Lit} {r : List Lit} (h : r.getLast? = some goal) : chainStep S Dn goal r = r := by
  unfold chainStep
  rw [h]
  simp
theorem chainStep_go {S : Lit → List Lit} {Dn : DL} {goal x : Lit} {r : List Lit} (h : r.getLast? = some x) (hne : x ≠ goal) : chainStep S Dn goal r = r ++ [(closerOf S Dn x).headD x] := by
  unfold chainStep
  rw [h]
  simp [hne]
theorem chain_done {S : Lit → List Lit} {Dn : DL} {goal start x : Lit} {i : Nat} (hi : i ≤ fuel) (h : (iterN (chainStep S Dn goal) i [start]).getLast? = some goal) : iterN (chainStep S Dn goal) fuel [start] = iterN (chainStep S Dn goal) i [start] := iterN_fix (n := i) (chainStep_goal h) hi
theorem dist_bd {U : List Lit} {S : Lit → List Lit} {goal x : Lit} {d : Int} (hU : Uok U S) (hg : neg goal ∈ U) (hx : dget (negD (distOf S (neg goal))) x = some d) : 0 ≤ d ∧ d < 40 := by
  have B := bok_dist hU hg
  rw [dget_negD] at hx
  have h := B.bd _ (dget_mem hx)
  have := B.le
  have := hU.2.1
  simp only at h
  omega
theorem succ_len (cs : List Clause) (l : Lit) : (succOf cs l).length ≤ 2 * cs.length := by
  unfold succOf sortLits
  rw [sortedBy_len]
  have h : ∀ (cs : List Clause) (E : Lit → List Lit), (cs.foldl addC E l).length ≤ (E l).length + 2 * cs.length := by
    intro cs
    induction cs with
    | nil => intro E; simp
    | cons c r ih =>
      intro E
      have h1 := ih (addC E c)
      have a1 : ∀ (E : Lit → List Lit) (a b : Lit), (addE E a b l).length ≤ (E l).length + 1 := fun E a b => by
        unfold addE addL
        split
        · split
          · omega
          · simp
        · omega
      have h2 : (addC E c l).length ≤ (E l).length + 2 := by
        unfold addC
        have k1 := a1 (addE E (neg (litsOf c).1) (litsOf c).2) (neg (litsOf c).2) (litsOf c).1
        have k2 := a1 E (neg (litsOf c).1) (litsOf c).2
        omega
      simp only [List.foldl_cons, List.length_cons]
      omega
  have := h cs (fun _ => [])
  simpa [edgesOf] using this
theorem uok_succ {ns : List Str} {cs : List Clause} (h : ∀ c ∈ cs, ClOk ns c) (hn : ns.length ≤ 6) (hc : cs.length ≤ 6) : Uok (litsN ns) (succOf cs) :=
  ⟨in_succ h, by rw [litsN_len]; omega, fun a => by have := succ_len cs a; omega⟩
end K19

/-! ## K19H -/
set_option Elab.async false
set_option linter.all false
set_option maxRecDepth 100000
set_option maxHeartbeats 4000000
namespace K19
open PySem PySem.Spec PyProof.Rows L2 Evl
theorem piT (K : PySem.W.Frag) {X : Cx} {tg l : Expr} {tl : TE} (hl : PE X l tl) (hK : X.K = K := by rfl) : PI X tg l (iTup K tl) := by
  subst hK
  exact pi_tup hl
theorem piL (K : PySem.W.Frag) {X : Cx} {tg l : Expr} {tl : TE} (hl : PE X l tl) (hK : X.K = K := by rfl) : PI X tg l (iList K tl) := by
  subst hK
  exact pi_list hl
/-! ### dicts keyed by literals, as they change -/
theorem sqt_updL {P : Program} {w : World} {K : PySem.W.Frag} {H : Hp} {D p : Addr} {l : List Ent} {o : HO} {xs : List V} (hD : H D = some (LD P w D l)) (h : SqT K H p xs) : SqT K (upd H D o) p xs := by
  rcases h with (h | ⟨ob, h⟩) | h
  · exact .inl (.inl (by rw [upd_ne (ne_of h hD ld_ne_tup)]; exact h))
  · exact .inl (.inr ⟨ob, by rw [upd_ne (ne_of h hD ld_ne_frz)]; exact h⟩)
  · exact .inr h
theorem LKs.updL {P : Program} {w : World} {K : PySem.W.Frag} {H : Hp} {D : Addr} {l kvs : List Ent} {o : HO} (hD : H D = some (LD P w D l)) (h : LKs K H kvs) : LKs K (upd H D o) kvs := fun p hp => sqt_updL hD (h p hp)
theorem rLit_updL {P : Program} {w : World} {K : PySem.W.Frag} {H : Hp} {D : Addr} {l : List Ent} {o : HO} {v : V} {m : Lit} (hD : H D = some (LD P w D l)) (h : rLit K H v m) : rLit K (upd H D o) v m := by
  obtain ⟨a, x, y, h1, h2, h3, h4⟩ := h
  exact ⟨a, x, y, h1, sqt_updL hD h2, h3, h4⟩
theorem lkV_none {kvs : List Ent} {l : Lit} : lkV kvs l = none ↔ l ∉ kvs.map (·.1) := by
  unfold lkV
  rw [Option.map_eq_none_iff, List.find?_eq_none]
  constructor
  · intro h hm
    obtain ⟨p, hp, e⟩ := List.mem_map.mp hm
    exact h p hp (by simpa using e)
  · intro h p hp e
    exact h (List.mem_map.mpr ⟨p, hp, by simpa using e⟩)
theorem lkV_isSome {kvs : List Ent} {l : Lit} : (lkV kvs l).isSome = decide (l ∈ kvs.map (·.1)) := by
  cases e : lkV kvs l with
  | none =>
    rw [decide_eq_false (lkV_none.mp e)]
    rfl
  | some v =>
    have : l ∈ kvs.map (·.1) := Classical.byContradiction fun h => by rw [lkV_none.mpr h] at e; cases e
    rw [decide_eq_true this]
    rfl
theorem lkV_mem {kvs : List Ent} {l : Lit} {v : V} (h : lkV kvs l = some v) : ∃ a, (l, a, v) ∈ kvs := by
  unfold lkV at h
  obtain ⟨p, hp, e⟩ := Option.map_eq_some_iff.mp h
  have h1 := List.mem_of_find?_eq_some hp
  have h2 := List.find?_some hp
  simp at h2
  refine ⟨p.2.1, ?_⟩
  rw [← h2, ← e]
  exact h1
theorem lkV_get {kvs : List Ent} {l : Lit} (h : l ∈ kvs.map (·.1)) : ∃ a v, lkV kvs l = some v ∧ (l, a, v) ∈ kvs := by
  cases e : lkV kvs l with
  | none => exact absurd h (lkV_none.mp e)
  | some v =>
    obtain ⟨a, ha⟩ := lkV_mem e
    exact ⟨a, v, rfl, ha⟩
theorem lput_new {kvs : List Ent} {l : Lit} (a : Addr) (v : V) (h : l ∉ kvs.map (·.1)) : lput kvs l a v = kvs ++ [(l, a, v)] := by
  unfold lput
  rw [lkV_none.mpr h]
  rfl
theorem lset_keys (l : Lit) (v : V) (kvs : List Ent) : (kvs.map (lset l v)).map (·.1) = kvs.map (·.1) := by
  rw [List.map_map]
  refine List.map_congr_left fun p _ => ?_
  show (lset l v p).1 = p.1
  unfold lset
  split <;> rfl
theorem lput_keys (kvs : List Ent) (l : Lit) (a : Addr) (v : V) : (lput kvs l a v).map (·.1) = addL (kvs.map (·.1)) l := by
  unfold addL
  split
  · rename_i h
    unfold lput
    rw [lkV_isSome, decide_eq_true h, if_pos rfl]
    exact lset_keys l v kvs
  · rename_i h
    rw [lput_new a v h, List.map_append]
    rfl
theorem lks_put {K : PySem.W.Frag} {H : Hp} {kvs : List Ent} {l : Lit} {a : Addr} {v : V} (h : LKs K H kvs) (ha : SqT K H a [.str l.1, .bl l.2]) : LKs K H (lput kvs l a v) := by
  intro p hp
  unfold lput at hp
  split at hp
  · obtain ⟨q, hq, e⟩ := List.mem_map.mp hp
    unfold lset at e
    split at e <;> (rw [← e]; exact h q hq)
  · rcases List.mem_append.mp hp with hp | hp
    · exact h p hp
    · simp at hp
      subst hp
      exact ha
theorem LOk.mono {P : Program} {w : World} {K : PySem.W.Frag} {H H' : Hp} {d : Addr} {kvs : List Ent} (e : Ex H H') (h : LOk P w K H d kvs) : LOk P w K H' d kvs := ⟨ex_rd e h.1, h.2.mono e⟩
theorem lok_of {P : Program} {w : World} {K : PySem.W.Frag} {H : Hp} {d : Addr} {kvs : List Ent} (h : H d = some (LD P w d kvs)) (hk : LKs K H kvs) : LOk P w K H d kvs := ⟨.inl h, hk⟩
/-! ### the dict of dicts of edges -/
structure EOk (P : Program) (w : World) (K : PySem.W.Frag) (H0 H : Hp) (D : Addr) (kvs : List Ent) (U : List Lit) (E : Lit → List Lit) : Prop where
  dict : H D = some (LD P w D kvs)
  keys : LKs K H kvs
  us : kvs.map (·.1) = U
  nd : U.Nodup
  inj : ∀ e ∈ kvs, ∀ e' ∈ kvs, e.2.2 = e'.2.2 → e.1 = e'.1
  val : ∀ e ∈ kvs, ∃ a kl, e.2.2 = .ref a ∧ a ≠ D ∧ H a = some (LD P w a kl) ∧ LKs K H kl ∧ kl.map (·.1) = E e.1 ∧ H0 a = none
section
variable {P : Program} {w : World} {K : PySem.W.Frag} {H0 H H' : Hp} {D : Addr} {kvs : List Ent} {U : List Lit} {E : Lit → List Lit}
theorem EOk.mono (e : Ex H H') (h : EOk P w K H0 H D kvs U E) : EOk P w K H0 H' D kvs U E := ⟨e _ _ h.dict, h.keys.mono e, h.us, h.nd, h.inj, fun x hx => by
  obtain ⟨a, kl, h1, h2, h3, h4, h5, h6⟩ := h.val x hx
  exact ⟨a, kl, h1, h2, e _ _ h3, h4.mono e, h5, h6⟩⟩
theorem EOk.empty (h : H D = some (LD P w D [])) (E : Lit → List Lit) : EOk P w K H0 H D [] [] E := ⟨h, fun _ h => (nomatch h), rfl, List.nodup_nil, fun _ h => (nomatch h), fun _ h => (nomatch h)⟩
theorem EOk.new {p a : Addr} {l : Lit} (h : EOk P w K H0 H D kvs U E) (hp0 : H p = none) (hp00 : H0 p = none) (ha : SqT K H a [.str l.1, .bl l.2]) (hl : l ∉ U) (hE : E l = []) :
    EOk P w K H0 (upd (upd H p (LD P w p [])) D (LD P w D (lput kvs l a (.ref p)))) D (lput kvs l a (.ref p)) (U ++ [l]) E := by
  have hl' : l ∉ kvs.map (·.1) := by rw [h.us]; exact hl
  rw [lput_new a _ hl']
  have e1 : Ex H (upd H p (LD P w p [])) := Ex.new hp0
  have h1 := h.mono e1
  have ne : p ≠ D := fun z => by rw [z, h.dict] at hp0; cases hp0
  refine ⟨upd_same, fun q hq => ?_, by rw [List.map_append, h.us]; rfl, by rw [List.nodup_append]; exact ⟨h.nd, by simp, fun c hc b hb e => by simp at hb; rw [e, hb] at hc; exact hl hc⟩, fun x hx y hy e => ?_, fun x hx => ?_⟩
  · rcases List.mem_append.mp hq with hq | hq
    · exact sqt_updL h1.dict (h1.keys q hq)
    · simp at hq
      subst hq
      exact sqt_updL h1.dict (ex_t e1 ha)
  · have old : ∀ z ∈ kvs, z.2.2 ≠ .ref p := fun z hz e => by
      obtain ⟨b, kl, h2, _, h3, _⟩ := h.val z hz
      rw [h2] at e
      cases e
      rw [h3] at hp0
      cases hp0
    rcases List.mem_append.mp hx with hx | hx <;> rcases List.mem_append.mp hy with hy | hy
    · exact h.inj x hx y hy e
    · simp at hy
      subst hy
      exact absurd e (old x hx)
    · simp at hx
      subst hx
      exact absurd e.symm (old y hy)
    · simp at hx hy
      rw [hx, hy]
  · rcases List.mem_append.mp hx with hx | hx
    · obtain ⟨b, kl, h2, h3, h4, h5, h6, h7⟩ := h1.val x hx
      exact ⟨b, kl, h2, h3, by rw [upd_ne h3]; exact h4, h5.updL h1.dict, h6, h7⟩
    · simp at hx
      subst hx
      exact ⟨p, [], rfl, ne, by rw [upd_ne ne]; exact upd_same, fun _ h => (nomatch h), hE.symm, hp00⟩
theorem key_uniq : ∀ {l : List Ent} {x y : Ent}, (l.map (·.1)).Nodup → x ∈ l → y ∈ l → x.1 = y.1 → x = y
  | [], _, _, _, hx, _, _ => nomatch hx
  | p :: r, x, y, hn, hx, hy, e => by
    rw [List.map_cons, List.nodup_cons] at hn
    rcases List.mem_cons.mp hx with e1 | hx <;> rcases List.mem_cons.mp hy with e2 | hy
    · rw [e1, e2]
    · exact absurd (List.mem_map.mpr ⟨y, hy, by rw [← e, e1]⟩) hn.1
    · exact absurd (List.mem_map.mpr ⟨x, hx, by rw [e, e2]⟩) hn.1
    · exact key_uniq hn.2 hx hy e
/-- the dict at a key: another key may be put into it -/
theorem EOk.at {l : Lit} (h : EOk P w K H0 H D kvs U E) (hl : l ∈ U) : ∃ q kl, lkV kvs l = some (.ref q) ∧ q ≠ D ∧ H q = some (LD P w q kl) ∧ LKs K H kl ∧ kl.map (·.1) = E l ∧ H0 q = none ∧
    ∀ (b : Addr) (m : Lit) (v : V), SqT K H b [.str m.1, .bl m.2] → EOk P w K H0 (upd H q (LD P w q (lput kl m b v))) D kvs U (addE E l m) := by
  obtain ⟨al, v, hv, hm⟩ := lkV_get (by rw [h.us]; exact hl : l ∈ kvs.map (·.1))
  obtain ⟨q, kl, h1, h2, h3, h4, h5, h6⟩ := h.val _ hm
  simp only at h1
  subst h1
  refine ⟨q, kl, hv, h2, h3, h4, h5, h6, fun b m v hb => ?_⟩
  refine ⟨by rw [upd_ne (Ne.symm h2)]; exact h.dict, h.keys.updL h3, h.us, h.nd, h.inj, fun x hx => ?_⟩
  obtain ⟨c, kc, k1, k2, k3, k4, k5, k6⟩ := h.val x hx
  by_cases e : c = q
  · subst e
    have ex : x.1 = l := h.inj x hx _ hm (by rw [k1])
    refine ⟨c, lput kl m b v, k1, k2, upd_same, (lks_put h4 hb).updL h3, ?_, k6⟩
    rw [lput_keys, h5]
    unfold addE
    rw [if_pos ex, ex]
  · refine ⟨c, kc, k1, k2, by rw [upd_ne e]; exact k3, k4.updL h3, ?_, k6⟩
    have ex : x.1 ≠ l := fun z => e (by
      have y := key_uniq (by rw [h.us]; exact h.nd) hx hm z
      rw [y] at k1
      injection k1 with k1
      exact k1.symm)
    rw [k5]
    unfold addE
    rw [if_neg ex]
end
/-- the graph -/
def rGr (P : Program) (w : World) (K : PySem.W.Frag) (U : List Lit) (S : Lit → List Lit) (H : Hp) (v : V) : Prop := ∃ g dx d kvs, v = .ref g ∧ H g = some (.ins (He.ga K "ImplicationGraph") dx [("successors", .ref d)]) ∧ LOk P w K H d kvs ∧ kvs.map (·.1) = U ∧ ∀ e ∈ kvs, rLst K (rLit K) H e.2.2 (S e.1)
theorem rGr.mono {P : Program} {w : World} {K : PySem.W.Frag} {U : List Lit} {S : Lit → List Lit} {H H' : Hp} {v : V} (e : Ex H H') (h : rGr P w K U S H v) : rGr P w K U S H' v := by
  obtain ⟨g, dx, d, kvs, h1, h2, h3, h4, h5⟩ := h
  exact ⟨g, dx, d, kvs, h1, e _ _ h2, h3.mono e, h4, fun x hx => mLst mLit _ _ _ _ e (h5 x hx)⟩
theorem rGr.at {P : Program} {w : World} {K : PySem.W.Frag} {U : List Lit} {S : Lit → List Lit} {H : Hp} {g dx d : Addr} {kvs : List Ent} {l : Lit} (h4 : kvs.map (·.1) = U) (h5 : ∀ e ∈ kvs, rLst K (rLit K) H e.2.2 (S e.1)) (hl : l ∈ U) : ∃ v, lkV kvs l = some v ∧ rLst K (rLit K) H v (S l) := by
  obtain ⟨a, v, hv, hm⟩ := lkV_get (by rw [h4]; exact hl : l ∈ kvs.map (·.1))
  exact ⟨v, hv, h5 _ hm⟩
def ExB (s : Addr) (H H' : Hp) : Prop := ∀ a o, a ≠ s → H a = some o → H' a = some o
end K19

/-! ## K19I -/
set_option Elab.async false
set_option linter.all false
set_option maxRecDepth 100000
set_option maxHeartbeats 4000000
namespace K19
open PySem PySem.Spec PyProof.Rows L2 Evl

theorem sc_ImplicationGraph_init : FnScope ["self", "names", "clauses", "edges", "name", "truth", "clause", "left", "right", "literal"] p_ImplicationGraph_init (defScope s_ImplicationGraph_init) := ⟨rfl, rfl, rfl, by decide +kernel, rfl, by decide +kernel, by decide +kernel⟩
/-! ### what stays while another object changes -/
def NoSeq (o : HO) : Prop := (∀ xs, o ≠ .tup xs) ∧ (∀ ob xs, o ≠ .frz ob (.tup xs)) ∧ (∀ xs, o ≠ .lst xs) ∧ ∀ ob xs, o ≠ .frz ob (.lst xs)
theorem sqt_updO {K : PySem.W.Frag} {H : Hp} {D p : Addr} {u o : HO} {xs : List V} (hD : H D = some u) (n : NoSeq u) (h : SqT K H p xs) : SqT K (upd H D o) p xs := by
  rcases h with (h | ⟨ob, h⟩) | h
  · exact .inl (.inl (by rw [upd_ne (ne_of h hD (Ne.symm (n.1 xs)))]; exact h))
  · exact .inl (.inr ⟨ob, by rw [upd_ne (ne_of h hD (Ne.symm (n.2.1 ob xs)))]; exact h⟩)
  · exact .inr h
theorem sql_updO {K : PySem.W.Frag} {H : Hp} {D p : Addr} {u o : HO} {xs : List V} (hD : H D = some u) (n : NoSeq u) (h : SqL K H p xs) : SqL K (upd H D o) p xs := by
  rcases h with (h | ⟨ob, h⟩) | h
  · exact .inl (.inl (by rw [upd_ne (ne_of h hD (Ne.symm (n.2.2.1 xs)))]; exact h))
  · exact .inl (.inr ⟨ob, by rw [upd_ne (ne_of h hD (Ne.symm (n.2.2.2 ob xs)))]; exact h⟩)
  · exact .inr h
theorem no_ld {P : Program} {w : World} {d : Addr} {kvs : List Ent} : NoSeq (LD P w d kvs) := ⟨fun _ h => ld_ne_tup h.symm, fun _ _ h => ld_ne_frz h.symm, fun _ h => ld_ne_lst h.symm, fun _ _ h => ld_ne_frz h.symm⟩
theorem no_frz {P : Program} {w : World} {d : Addr} {od : Obj} {kvs : List Ent} : NoSeq (.frz od (LD P w d kvs)) := ⟨fun _ h => (nomatch h), fun _ _ h => by injection h with _ h; exact ld_ne_tup h.symm, fun _ h => (nomatch h), fun _ _ h => by injection h with _ h; exact ld_ne_lst h.symm⟩
theorem no_ins {C dx : Addr} {fs : List (Str × V)} : NoSeq (.ins C dx fs) := ⟨fun _ h => (nomatch h), fun _ _ h => (nomatch h), fun _ h => (nomatch h), fun _ _ h => (nomatch h)⟩
theorem rLit_updO {K : PySem.W.Frag} {H : Hp} {D : Addr} {u o : HO} {v : V} {m : Lit} (hD : H D = some u) (n : NoSeq u) (h : rLit K H v m) : rLit K (upd H D o) v m := by
  obtain ⟨a, x, y, h1, h2, h3, h4⟩ := h
  exact ⟨a, x, y, h1, sqt_updO hD n h2, h3, h4⟩
theorem rLits_updO {K : PySem.W.Frag} {H : Hp} {D : Addr} {u o : HO} {v : V} {m : List Lit} (hD : H D = some u) (n : NoSeq u) (h : rLst K (rLit K) H v m) : rLst K (rLit K) (upd H D o) v m := by
  obtain ⟨a, xs, h1, h2, h3⟩ := h
  exact ⟨a, xs, h1, sql_updO hD n h2, h3.imp fun v a hv => rLit_updO hD n hv⟩
theorem LKs.updO {K : PySem.W.Frag} {H : Hp} {D : Addr} {u o : HO} {kvs : List Ent} (hD : H D = some u) (n : NoSeq u) (h : LKs K H kvs) : LKs K (upd H D o) kvs := fun p hp => sqt_updO hD n (h p hp)
/-- a dict of lists of literals -/
structure GDat (P : Program) (w : World) (K : PySem.W.Frag) (H : Hp) (d : Addr) (kvs : List Ent) (U : List Lit) (S : Lit → List Lit) : Prop where
  dict : H d = some (LD P w d kvs)
  keys : LKs K H kvs
  us : kvs.map (·.1) = U
  val : ∀ e ∈ kvs, rLst K (rLit K) H e.2.2 (S e.1)
theorem GDat.updO {P : Program} {w : World} {K : PySem.W.Frag} {H : Hp} {d D : Addr} {kvs : List Ent} {U : List Lit} {S : Lit → List Lit} {u o : HO} (h : GDat P w K H d kvs U S) (hD : H D = some u) (n : NoSeq u) (ne : d ≠ D) : GDat P w K (upd H D o) d kvs U S :=
  ⟨by rw [upd_ne ne]; exact h.dict, h.keys.updO hD n, h.us, fun e he => rLits_updO hD n (h.val e he)⟩
theorem GDat.mono {P : Program} {w : World} {K : PySem.W.Frag} {H H' : Hp} {d : Addr} {kvs : List Ent} {U : List Lit} {S : Lit → List Lit} (e : Ex H H') (h : GDat P w K H d kvs U S) : GDat P w K H' d kvs U S :=
  ⟨e _ _ h.dict, h.keys.mono e, h.us, fun x hx => mLst mLit _ _ _ _ e (h.val x hx)⟩
/-- a key more -/
theorem GDat.put {P : Program} {w : World} {K : PySem.W.Frag} {H : Hp} {d a : Addr} {kvs : List Ent} {U : List Lit} {S : Lit → List Lit} {l : Lit} {v : V} (h : GDat P w K H d kvs U S) (hl : l ∉ U) (ha : SqT K H a [.str l.1, .bl l.2]) (hv : rLst K (rLit K) H v (S l)) :
    GDat P w K (upd H d (LD P w d (lput kvs l a v))) d (lput kvs l a v) (U ++ [l]) S := by
  rw [lput_new a v (by rw [h.us]; exact hl)]
  refine ⟨upd_same, fun p hp => ?_, by rw [List.map_append, h.us]; rfl, fun e he => ?_⟩
  · rcases List.mem_append.mp hp with hp | hp
    · exact sqt_updO h.dict no_ld (h.keys p hp)
    · simp at hp
      subst hp
      exact sqt_updO h.dict no_ld ha
  · rcases List.mem_append.mp he with he | he
    · exact rLits_updO h.dict no_ld (h.val e he)
    · simp at he
      subst he
      exact rLits_updO h.dict no_ld hv
/-! ### lengths -/
theorem addL_len (xs : List Lit) (b : Lit) : (addL xs b).length ≤ xs.length + 1 := by
  unfold addL
  split
  · omega
  · simp
theorem addE_len (E : Lit → List Lit) (a b l : Lit) : (addE E a b l).length ≤ (E l).length + 1 := by
  unfold addE
  split
  · exact addL_len _ _
  · omega
theorem addC_len (E : Lit → List Lit) (c : Clause) (l : Lit) : (addC E c l).length ≤ (E l).length + 2 := by
  unfold addC
  have h1 := addE_len (addE E (neg (litsOf c).1) (litsOf c).2) (neg (litsOf c).2) (litsOf c).1 l
  have h2 := addE_len E (neg (litsOf c).1) (litsOf c).2 l
  omega
theorem fold_len : ∀ (cs : List Clause) (E : Lit → List Lit) (l : Lit), (cs.foldl addC E l).length ≤ (E l).length + 2 * cs.length
  | [], _, _ => by simp
  | c :: r, E, l => by
    have h1 := fold_len r (addC E c) l
    have h2 := addC_len E c l
    simp only [List.foldl_cons, List.length_cons]
    omega
theorem edges_len (cs : List Clause) (l : Lit) : (edgesOf cs l).length ≤ 2 * cs.length := by
  have := fold_len cs (fun _ => []) l
  simpa [edgesOf] using this
theorem edges_snoc {cs : List Clause} {c : Clause} {i : Nat} (h : cs[i]? = some c) : edgesOf (cs.take (i + 1)) = addC (edgesOf (cs.take i)) c := by
  have e : cs.take (i + 1) = cs.take i ++ [c] := by rw [List.take_succ, h]; rfl
  unfold edgesOf
  rw [e, List.foldl_append]
  rfl
theorem litsN_snoc {ns : List Str} {n : Str} {i : Nat} (h : ns[i]? = some n) : litsN (ns.take (i + 1)) = litsN (ns.take i) ++ [(n, false), (n, true)] := by
  have e : ns.take (i + 1) = ns.take i ++ [n] := by rw [List.take_succ, h]; rfl
  unfold litsN
  rw [e, List.flatMap_append]
  rfl
theorem not_in_take {ns : List Str} {n : Str} {i : Nat} (hn : ns.Nodup) (h : ns[i]? = some n) : n ∉ ns.take i := by
  have e : ns.take (i + 1) = ns.take i ++ [n] := by rw [List.take_succ, h]; rfl
  have nd : (ns.take (i + 1)).Nodup := hn.sublist (List.take_sublist ..)
  rw [e, List.nodup_append] at nd
  exact fun hm => nd.2.2 n hm n (by simp) rfl
theorem litsN_nodup {ns : List Str} (h : ns.Nodup) : (litsN ns).Nodup := by
  induction ns with
  | nil => exact List.nodup_nil
  | cons n r ih =>
    rw [List.nodup_cons] at h
    have e : litsN (n :: r) = [(n, false), (n, true)] ++ litsN r := rfl
    rw [e, List.nodup_append]
    refine ⟨by simp, ih h.2, fun a ha b hb e => ?_⟩
    have hb2 := mem_litsN.mp hb
    rw [← e] at hb2
    simp at ha
    rcases ha with rfl | rfl <;> exact h.1 hb2
theorem yesT {σ : L2.St} {H : Hp} {Q : Bool → Hp → Prop} (h : Q true H) : tYes σ H Q := h
def spGInit (P : Program) (w : World) (K : PySem.W.Frag) : Sp := fun vs H Q _ => ∃ self dx vn vc ns cs, vs = [.ref self, vn, vc] ∧ H self = some (.ins (He.ga K "ImplicationGraph") dx []) ∧ rLst K rStr H vn ns ∧ rTpl K (rCl K) H vc cs ∧ ns.Nodup ∧ ns.length ≤ 6 ∧ cs.length ≤ 6 ∧ (∀ c ∈ cs, ClOk ns c) ∧
  ∀ H', ExB self H H' → rGr P w K (litsN ns) (succOf cs) H' (.ref self) → Q .non H'
section
variable {P : Program} {w : World} {K : PySem.W.Frag} {mg : Str → Option Value} {base : Heap}
theorem mk_ImplicationGraph (T : Txt K mg) : Mak P w K mg base CX0 2 "ImplicationGraph" (He.ga K "ImplicationGraph") (spGInit P w K) := by
  refine mak0 (N := ["self", "names", "clauses", "edges", "name", "truth", "clause", "left", "right", "literal"]) T.k_ImplicationGraph T.g_ImplicationGraph T.D_ImplicationGraph_init sc_ImplicationGraph_init (fun vs H Q E h => ?_) fun cdv A outer s H vs Q E hr h => ?_
  · obtain ⟨_, _, _, _, _, _, rfl, _⟩ := h; rfl
  · obtain ⟨self, dx, vn, vc, ns, cs, rfl, hself, ⟨pn, xs, rfl, hn, hxl⟩, ⟨pc, zs, rfl, hc, hzl⟩, nd, n6, c6, hok, k⟩ := h
    refine ⟨_, (pss_cons (ps_set (i := 3) sc_ImplicationGraph_init.nd rfl (Or.inr rfl) (pe_ldc2 (own := [("name", 4), ("truth", 5)]) (g := gName 4) (tt := tYes) (g1 := gName 5) (tt1 := tYes) (vs1 := [5]) (hu_of hr) rfl sc_ImplicationGraph_init.nd (pi_list (pv 1)) (blkOk_by (N := ["self", "names", "clauses", "edges", "name", "truth", "clause", "left", "right", "literal"]) (sc := defScope s_ImplicationGraph_init) (by decide +kernel)) (by decide) (fun _ _ _ _ _ => (pg_name (i := 4) sc_ImplicationGraph_init.nd rfl (Or.inl rfl))) (fun _ _ _ _ _ => pts_nil) (fun _ _ _ _ _ => (piT K (pe_tup (pa_cons pe_bl (pa_cons pe_bl pa_nil))))) (fun _ _ _ _ _ => (pg_name (i := 5) sc_ImplicationGraph_init.nd rfl (Or.inl rfl))) (fun _ _ _ _ _ => pts_nil) (fun _ _ _ _ _ => (pe_tup (pa_cons (pv 4) (pa_cons (pv 5) pa_nil)))) (fun _ _ _ _ _ => (pe_lnew P w))))
      (pss_cons (ps_for PassesOwn.never rfl (pi_tup (pv 2)) (pg_name (i := 6) sc_ImplicationGraph_init.nd rfl (Or.inl rfl)) (pss_cons (ps_asg (pe_c (ok_literals_of (P := P) (w := w) (base := base) T) hr (by decide) rfl pass0 (pa_cons (pv 6) pa_nil)) (pgT K rfl (pgs_cons (pg_name (i := 7) sc_ImplicationGraph_init.nd rfl (Or.inl rfl)) (pgs_cons (pg_name (i := 8) sc_ImplicationGraph_init.nd rfl (Or.inl rfl)) pgs_nil))))
      (pss_cons (ps_lput P w K (hu_of hr) (pe_lget P w K (hu_of hr) (pv 3) (pe_c (ok_negate (P := P) (w := w) (base := base) T) hr (by decide) rfl pass0 (pa_cons (pv 7) pa_nil)) (fun _ _ => rfl)) (pv 8) pe_bl rfl)
      (pss_one (ps_lput P w K (hu_of hr) (pe_lget P w K (hu_of hr) (pv 3) (pe_c (ok_negate (P := P) (w := w) (base := base) T) hr (by decide) rfl pass0 (pa_cons (pv 8) pa_nil)) (fun _ _ => rfl)) (pv 7) pe_bl rfl)))))
      (pss_one (ps_fld (pv 0) (pe_lock (pe_ldc (own := [("literal", 9)]) (g := gName 9) (tt := tYes) (hu_of hr) rfl sc_ImplicationGraph_init.nd (pi_lkeys (pv 3)) (blkOk_by (N := ["self", "names", "clauses", "edges", "name", "truth", "clause", "left", "right", "literal"]) (sc := defScope s_ImplicationGraph_init) (by decide +kernel)) (fun _ _ _ _ _ => (pg_name (i := 9) sc_ImplicationGraph_init.nd rfl (Or.inl rfl))) (fun _ _ _ _ _ => pts_nil) (fun _ _ _ _ _ => (pv 9)) (fun _ _ _ _ _ => (pe_callB (cr_sortL' P w K rfl hr.units) rfl T.f_sorted bt_sorted (pa_cons (pe_lget P w K (hu_of hr) (pv 3) (pv 9) (fun _ _ => rfl)) pa_nil))))) rfl)))), ?_⟩
    have hlen := hxl.length
    refine ⟨_, rfl, pn, rfl, ⟨xs, hn⟩, fun D hD => ?_⟩
    have H0D : Ex H (upd H D (LD P w D [])) := Ex.new hD
    refine ⟨fun i m H1 => m = ns.length - i ∧ i ≤ ns.length ∧ ∃ kvs, Ex H H1 ∧ EOk P w K H H1 D kvs (litsN (ns.take i)) (fun _ => []), ⟨_, rfl, Nat.zero_le _, [], H0D, EOk.empty upd_same _⟩, ?_⟩
    rintro i m H1 ⟨rfl, hi, kvs, e1, ek⟩
    by_cases hlt : i < ns.length
    · obtain ⟨n, hni⟩ : ∃ n, ns[i]? = some n := ⟨ns[i], by simp [hlt]⟩
      obtain ⟨x, hx, rx⟩ := hxl.get hni
      obtain rfl : x = .str n := rx
      refine .inr ⟨⟨xs, _, ex_l e1 hn, hx⟩, fun H' => ∃ kvs, Ex H H' ∧ EOk P w K H H' D kvs (litsN (ns.take (i + 1))) (fun _ => []), fun H' h => ⟨_, by omega, rfl, by omega, h⟩, fun x H' y => ?_⟩
      obtain ⟨rfl, y⟩ := y
      have ex := y xs (ex_l e1 hn)
      rw [hx] at ex
      cases ex
      have ln : n ∉ ns.take i := not_in_take nd hni
      refine ⟨rfl, yesT (iteT ⟨by show 2 ≤ sizeLine; decide, fun Tp hTp => ⟨Tp, rfl, ⟨_, st_of upd_same⟩, fun j k H2 => k = 2 - j ∧ j ≤ 2 ∧ ∃ kvs, Ex H H2 ∧ SqT K H2 Tp [.bl false, .bl true] ∧ EOk P w K H H2 D kvs (litsN (ns.take i) ++ [(n, false), (n, true)].take j) (fun _ => []), ⟨_, rfl, Nat.zero_le _, kvs, e1.trans (Ex.new hTp), st_of upd_same, by rw [List.take_zero, List.append_nil]; exact ek.mono (Ex.new hTp)⟩, ?_⟩⟩)⟩
      rintro j k2 H2 ⟨rfl, hj, kv2, e2, ht2, ek2⟩
      by_cases hj2 : j < 2
      · obtain ⟨b, hb⟩ : ∃ b, [false, true][j]? = some b := ⟨[false, true][j], by simp [hj2]⟩
        have hbv : [V.bl false, V.bl true][j]? = some (V.bl b) := by
          match j, hj2, hb with
          | 0, _, hb => cases hb; rfl
          | 1, _, hb => cases hb; rfl
        have hlt : [(n, false), (n, true)].take (j + 1) = [(n, false), (n, true)].take j ++ [(n, b)] := by
          match j, hj2, hb with
          | 0, _, hb => cases hb; rfl
          | 1, _, hb => cases hb; rfl
        have hni2 : ((n, b) : Lit) ∉ litsN (ns.take i) ++ [(n, false), (n, true)].take j := by
          rw [List.mem_append]
          rintro (h1 | h1)
          · exact ln (mem_litsN.mp h1)
          · match j, hj2, hb with
            | 0, _, hb => exact nomatch h1
            | 1, _, hb => cases hb; simp at h1
        refine .inr ⟨⟨_, _, ht2, hbv⟩, fun H' => ∃ kvs, Ex H H' ∧ SqT K H' Tp [.bl false, .bl true] ∧ EOk P w K H H' D kvs (litsN (ns.take i) ++ [(n, false), (n, true)].take (j + 1)) (fun _ => []), fun H' h => ⟨_, by omega, rfl, by omega, h⟩, fun x H' y => ?_⟩
        obtain ⟨rfl, y⟩ := y
        have ex := y _ ht2
        rw [hbv] at ex
        cases ex
        refine ⟨rfl, yesT (iteT ?_)⟩
        refine ⟨_, rfl, _, rfl, by show 2 ≤ sizeLine; decide, fun p hp q hq => ?_⟩
        have e3 : Ex H' (upd H' p (.tup [.str n, .bl b])) := Ex.new hp
        have ek3 := ek2.mono e3
        refine ⟨kv2, (n, b), p, rfl, st_of (Ex.new hq _ _ upd_same), (Ex.new hq) _ _ ek3.dict, ek3.keys.mono (Ex.new hq), ?_, _, ?_, ?_, by rw [hlt, ← List.append_assoc]; exact ek3.new hq (fresh_back (e2.trans e3) hq) (st_of upd_same) hni2 rfl⟩
        · have z := congrArg List.length ek2.us
          rw [List.length_map, List.length_append, litsN_len, List.length_take] at z
          have z2 : ([(n, false), (n, true)].take j).length ≤ 2 := by rw [List.length_take]; exact Nat.min_le_right _ _
          exact sz_lt (by omega)
        · exact Ex.mut (Ex.mut (e2.trans e3) (fresh_back (e2.trans e3) hq)) hD
        · exact sqt_updL ((Ex.new hq) _ _ ek3.dict) (ex_t (e3.trans (Ex.new hq)) ht2)
      · have ej : j = 2 := by omega
        subst ej
        exact .inl ⟨⟨_, ht2, Nat.le_refl _⟩, kv2, e2, by rw [litsN_snoc hni]; exact ek2⟩
    · have ei : i = ns.length := by omega
      subst ei
      rw [List.take_length] at ek
      refine .inl ⟨⟨xs, ex_l e1 hn, by omega⟩, ?_⟩
      have hzl' := hzl.length
      refine ⟨_, rfl, pc, rfl, ⟨zs, ex_t e1 hc⟩, for_tup (K := K) (a := pc) (xs := zs) (fun (i : Nat) (σ' : L2.St) (H' : Hp) => ∃ o6 o7 o8, σ' = [some (.ref self), some (.ref pn), some (.ref pc), some (.ref D), none, none, o6, o7, o8, none] ∧ Ex H H' ∧ EOk P w K H H' D kvs (litsN ns) (edgesOf (cs.take i))) ⟨_, _, _, rfl, e1, ek⟩ (fun i σ' H' _ ⟨_, _, _, _, e, _⟩ => ex_t e hc) ?_ ?_⟩
      · rintro i x σ' H2 hx ⟨o6, o7, o8, rfl, e2, ek2⟩
        obtain ⟨c, hci, rc⟩ := hzl.getV hx
        have cok := lits_ok (hok c (List.mem_of_getElem? hci))
        have ilt : i < zs.length := (List.getElem?_eq_some_iff.mp hx).1
        refine ⟨_, rfl, _, c, rfl, mCl _ _ _ _ e2 rc, fun v H3 e3 rv => ?_⟩
        obtain ⟨pt, vl, vr, rfl, hpt, rl, rr⟩ := rv
        refine ⟨_, _, rfl, hpt, rfl, _, _, rfl, _, _, rfl, rfl, ?_⟩
        have ek3 := ek2.mono e3
        have ln : ∀ E : Lit → List Lit, E = edgesOf (cs.take i) → ∀ l, (E l).length ≤ 12 := fun E h l => by
          rw [h]
          have := edges_len (cs.take i) l
          rw [List.length_take] at this
          omega
        -- edges[negate(left)][right] = True
        refine ⟨_, rfl, _, rfl, _, _, rfl, rl, fun nv H4 e4 rn => ?_⟩
        have ek4 := ek3.mono e4
        obtain ⟨q, kl, g1, g2, g3, g4, g5, g7, g6⟩ := ek4.at (l := neg (litsOf c).1) (neg_in cok.1)
        refine ⟨D, kvs, _, _, rfl, rn, lok_of ek4.dict ek4.keys, g1, _, rfl, ?_⟩
        obtain ⟨ar, er, har⟩ := litB (mLit _ _ _ _ e4 rr)
        refine ⟨q, ar, kl, _, rfl, er, har, g3, g4, ?_, ?_⟩
        · have z := congrArg List.length g5
          rw [List.length_map] at z
          rw [z]
          exact sz_lt (Nat.lt_of_le_of_lt (ln _ rfl _) (by decide))
        have ek5 := g6 ar _ (.bl true) har
        have e05 : Ex H (upd H4 q (LD P w q (lput kl (litsOf c).2 ar (.bl true)))) := Ex.mut ((e2.trans e3).trans e4) g7
        have rl5 := rLit_updL (P := P) (w := w) (o := LD P w q (lput kl (litsOf c).2 ar (.bl true))) g3 (mLit _ _ _ _ e4 rl)
        have rr5 := rLit_updL (P := P) (w := w) (o := LD P w q (lput kl (litsOf c).2 ar (.bl true))) g3 (mLit _ _ _ _ e4 rr)
        -- edges[negate(right)][left] = True
        refine ⟨_, rfl, _, rfl, _, _, rfl, rr5, fun nv H6 e6 rn6 => ?_⟩
        have ek6 := ek5.mono e6
        obtain ⟨q6, kl6, k1, k2, k3, k4, k5, k7, k6⟩ := ek6.at (l := neg (litsOf c).2) (neg_in cok.2)
        refine ⟨D, kvs, _, _, rfl, rn6, lok_of ek6.dict ek6.keys, k1, _, rfl, ?_⟩
        obtain ⟨al, el, hal⟩ := litB (mLit _ _ _ _ e6 rl5)
        refine ⟨q6, al, kl6, _, rfl, el, hal, k3, k4, ?_, ?_⟩
        · have z := congrArg List.length k5
          rw [List.length_map] at z
          rw [z]
          have z2 := addE_len (edgesOf (cs.take i)) (neg (litsOf c).1) (litsOf c).2 (neg (litsOf c).2)
          have z3 := ln _ rfl (neg (litsOf c).2)
          exact sz_lt (by omega)
        refine ⟨_, _, _, rfl, Ex.mut (e05.trans e6) k7, ?_⟩
        rw [edges_snoc hci]
        exact k6 al _ (.bl true) hal
      · rintro σ' H2 ⟨o6, o7, o8, rfl, e2, ek2⟩
        rw [show zs.length = cs.length from hzl.length, List.take_length] at ek2
        have hU : (litsN ns).Nodup := litsN_nodup nd
        have hlU : (litsN ns).length ≤ 12 := by rw [litsN_len]; omega
        have hkl : kvs.length = (litsN ns).length := by rw [← ek2.us, List.length_map]
        refine ⟨D, _, ek2.dict, ld_mut, fun od => ?_⟩
        have fz : upd H2 D (.frz od (LD P w D kvs)) D = some (.frz od (LD P w D kvs)) := upd_same
        have fkeys : LKs K (upd H2 D (.frz od (LD P w D kvs))) kvs := ek2.keys.updO ek2.dict no_ld
        have fval : ∀ e ∈ kvs, ∃ a kl, e.2.2 = .ref a ∧ LOk P w K (upd H2 D (.frz od (LD P w D kvs))) a kl ∧ kl.map (·.1) = edgesOf cs e.1 := fun e he => by
          obtain ⟨a, kl, h1, h2, h3, h4, h5, _⟩ := ek2.val e he
          exact ⟨a, kl, h1, lok_of (by rw [upd_ne h2]; exact h3) (h4.updO ek2.dict no_ld), h5⟩
        have d0 : H D = none := hD
        have eF : Ex H (upd H2 D (.frz od (LD P w D kvs))) := Ex.mut e2 d0
        generalize upd H2 D (.frz od (LD P w D kvs)) = HF at fz fkeys fval eF
        refine ⟨_, rfl, D, od, kvs, rfl, fz, fun D2 hD2 => ?_⟩
        have nDD : D2 ≠ D := fun z => by rw [z, fz] at hD2; cases hD2
        refine ⟨fun i m H3 => m = kvs.length - i ∧ i ≤ kvs.length ∧ ∃ k2, Ex HF H3 ∧ GDat P w K H3 D2 k2 ((litsN ns).take i) (succOf cs), ⟨_, rfl, Nat.zero_le _, [], Ex.new hD2, upd_same, fun _ h => (nomatch h), rfl, fun _ h => (nomatch h)⟩, ?_⟩
        rintro i m H3 ⟨rfl, hi, k2, e3, gd⟩
        by_cases hlt : i < kvs.length
        · obtain ⟨en, hen⟩ : ∃ en, kvs[i]? = some en := ⟨kvs[i], by simp [hlt]⟩
          have hem := List.mem_of_getElem? hen
          have hui : (litsN ns)[i]? = some en.1 := by rw [← ek2.us, List.getElem?_map, hen]; rfl
          have tki : (litsN ns).take (i + 1) = (litsN ns).take i ++ [en.1] := by rw [List.take_succ, hui]; rfl
          have nin : en.1 ∉ (litsN ns).take i := fun hm => by
            have z : ((litsN ns).take (i + 1)).Nodup := hU.sublist (List.take_sublist ..)
            rw [tki, List.nodup_append] at z
            exact z.2.2 _ hm _ (by simp) rfl
          refine .inr ⟨⟨e3 _ _ fz, hlt⟩, fun H' => ∃ k2, Ex HF H' ∧ GDat P w K H' D2 k2 ((litsN ns).take (i + 1)) (succOf cs), fun H' h => ⟨_, by omega, rfl, by omega, h⟩, fun x H' y => ?_⟩
          obtain ⟨rfl, en', hen', rfl⟩ := y
          rw [hen] at hen'
          cases hen'
          refine ⟨rfl, yesT (iteT ?_)⟩
          have kT := ex_t e3 (fkeys en hem)
          obtain ⟨a, kl, hv, hlo, hke⟩ := fval en hem
          obtain ⟨al, v, hg, hm2⟩ := lkV_get (List.mem_map.mpr ⟨en, hem, rfl⟩ : en.1 ∈ kvs.map (·.1))
          have eqv := key_uniq (by rw [ek2.us]; exact hU) hm2 hem rfl
          have ev : v = .ref a := by rw [← hv, ← eqv]
          refine ⟨_, rfl, _, rfl, _, rfl, D, kvs, en.1, v, rfl, ⟨_, _, _, rfl, kT, rfl, rfl⟩, ⟨.inr ⟨od, e3 _ _ fz⟩, fkeys.mono e3⟩, hg, ?_⟩
          refine ⟨a, kl, by rw [ev], hlo.mono e3, fun p H4 ys hp eH hly => ?_⟩
          subst eH
          have ep : Ex H' (upd H' p (.lst ys)) := Ex.new hp
          have gd4 := gd.mono ep
          refine ⟨k2, en.1, en.2.1, rfl, ex_t ep kT, gd4.dict, gd4.keys, ?_, lput k2 en.1 en.2.1 (.ref p), Ex.mut (e3.trans ep) hD2, ?_⟩
          · have z := congrArg List.length gd.us
            rw [List.length_map, List.length_take] at z
            exact sz_lt (by omega)
          rw [tki]
          refine gd4.put nin (ex_t ep kT) ⟨p, ys, rfl, sq_of upd_same, ?_⟩
          rw [show succOf cs en.1 = sortLits (kl.map (·.1)) from by unfold succOf; rw [hke]]
          exact hly.mono mLit ep
        · have ei : i = kvs.length := by omega
          subst ei
          rw [hkl, List.take_length] at gd
          refine .inl ⟨⟨e3 _ _ fz, Nat.le_refl _⟩, e3 _ _ fz, ?_⟩
          have s0 := eF _ _ hself
          have s3 := e3 _ _ s0
          have nsD : self ≠ D := fun z => by rw [z, d0] at hself; cases hself
          refine ⟨_, rfl, self, _, dx, [], rfl, by rw [upd_ne nsD]; exact s3, T.c_ImplicationGraph, T.n_ImplicationGraph_successors, by decide, ?_⟩
          have gd2 := gd.updO (o := LD P w D kvs) (e3 _ _ fz) no_frz nDD
          have nD2s : D2 ≠ self := fun z => by rw [z, s0] at hD2; cases hD2
          have gd3 := gd2.updO (D := self) (o := .ins (He.ga K "ImplicationGraph") dx (putF "successors" (.ref D2) [])) (by rw [upd_ne nsD]; exact s3) no_ins nD2s
          refine k _ (fun a o ha h => ?_) ⟨self, dx, D2, k2, rfl, upd_same, lok_of gd3.dict gd3.keys, gd3.us, gd3.val⟩
          rw [upd_ne ha]
          have naD : a ≠ D := fun z => by rw [z, d0] at h; cases h
          rw [upd_ne naD]
          exact e3 _ _ (eF _ _ h)
end
end K19

/-! ## K19J -/
set_option Elab.async false
set_option linter.all false
set_option maxRecDepth 100000
set_option maxHeartbeats 4000000
namespace K19
open PySem PySem.Spec PyProof.Rows L2 Evl

theorem sc_ImplicationGraph_reachable : FnScope ["self", "starts", "reached", "start", "pending", "literal"] p_ImplicationGraph_reachable (defScope s_ImplicationGraph_reachable) := ⟨rfl, rfl, rfl, by decide +kernel, rfl, by decide +kernel, by decide +kernel⟩
theorem no_ldR {P : Program} {w : World} {K : PySem.W.Frag} {H : Hp} {D : Addr} {kvs : List Ent} {o : HO} {xs : List V} {ls : List Lit} (hD : H D = some (LD P w D kvs)) (h : LR (rLit K) H xs ls) : LR (rLit K) (upd H D o) xs ls := h.imp fun v a hv => rLit_updO hD no_ld hv
theorem lst_R {K : PySem.W.Frag} {H : Hp} {D : Addr} {l ys xs : List V} {ls : List Lit} (hD : H D = some (.lst l)) (h : LR (rLit K) H xs ls) : LR (rLit K) (upd H D (.lst ys)) xs ls := h.imp fun v a hv => bLit H D l ys v a hD hv
theorem lr_last {α : Type} {R : DR α} {H : Hp} {xs : List V} {as : List α} {a : α} (h : LR R H xs as) (ha : as.getLast? = some a) : ∃ x, xs[xs.length - 1]? = some x ∧ R H x a := by
  rw [List.getLast?_eq_getElem?] at ha
  obtain ⟨x, h1, h2⟩ := h.get ha
  rw [h.length]
  exact ⟨x, h1, h2⟩
theorem lr_drop {α : Type} {R : DR α} {H : Hp} : ∀ {xs : List V} {as : List α}, LR R H xs as → LR R H xs.dropLast as.dropLast
  | _, _, .nil => .nil
  | _, _, .cons r .nil => .nil
  | _, _, .cons r (.cons r2 t) => .cons r (lr_drop (.cons r2 t))
theorem lr_nil {α : Type} {R : DR α} {H : Hp} {xs : List V} {as : List α} (h : LR R H xs as) : xs = [] ↔ as = [] := by
  have := h.length
  constructor
  · rintro rfl
    exact List.length_eq_zero_iff.mp this.symm
  · rintro rfl
    exact List.length_eq_zero_iff.mp this
theorem lks_lst {K : PySem.W.Frag} {H : Hp} {D : Addr} {l ys : List V} {kvs : List Ent} (hD : H D = some (.lst l)) (h : LKs K H kvs) : LKs K (upd H D (.lst ys)) kvs := fun p hp => sqt_upd hD (h p hp)
/-- a dict of literals is handed back -/
def RetL (P : Program) (w : World) (K : PySem.W.Frag) (ks : List Lit) (H : Hp) (Q : VK) : Prop := ∀ d H' kvs, H d = none → Ex H H' → H' d = some (LD P w d kvs) → LKs K H' kvs → kvs.map (·.1) = ks → Q (.ref d) H'
def spReach (P : Program) (w : World) (K : PySem.W.Frag) : Sp := fun vs H Q _ => ∃ vg va U S l0, vs = [vg, va] ∧ rGr P w K U S H vg ∧ Uok U S ∧ l0 ∈ U ∧ rLst K (rLit K) H va [l0] ∧ RetL P w K (reachOf S l0) H Q
section
variable {P : Program} {w : World} {K : PySem.W.Frag} {mg : Str → Option Value} {base : Heap}
theorem ok_ImplicationGraph_reachable (T : Txt K mg) : Met P w K mg base CX0 1 (He.ga K "ImplicationGraph") "reachable" (spReach P w K) := by
  refine met0 (N := ["self", "starts", "reached", "start", "pending", "literal"]) T.c_ImplicationGraph T.m_ImplicationGraph_reachable T.D_ImplicationGraph_reachable sc_ImplicationGraph_reachable (fun vs H Q E h => ?_) fun cdv A outer s H vs Q E hr h => ?_
  · obtain ⟨_, _, _, _, _, rfl, _⟩ := h; rfl
  · obtain ⟨vg, va, U, S, l0, rfl, ⟨g, dxg, dg, kg, rfl, hgi, hgd, hgu, hgv⟩, hU, hl0, ⟨pa, xa, rfl, ha, hla⟩, k⟩ := h
    refine ⟨_, (pss_cons (ps_setLdc (i := 2) (own := [("start", 3)]) (g := gName 3) (tt := tYes) (hu_of hr) rfl sc_ImplicationGraph_reachable.nd rfl rfl (sw_trueD rfl rfl rfl (by decide +kernel)) (pi_list (pv 1)) (blkOk_by (N := ["self", "starts", "reached", "start", "pending", "literal"]) (sc := defScope s_ImplicationGraph_reachable) (by decide +kernel)) (fun _ _ _ _ _ => (pg_name (i := 3) sc_ImplicationGraph_reachable.nd rfl (Or.inl rfl))) (fun _ _ _ _ _ => pts_nil) (fun _ _ _ _ _ => (pv 3)) (fun _ _ _ _ _ => pe_bl))
      (pss_cons (ps_set (i := 4) sc_ImplicationGraph_reachable.nd rfl (Or.inl rfl) (pe_callTy (cr_listL rfl) rfl T.f_list bt_list (pa_cons (pv 2) pa_nil)))
      (pss_cons (ps_while PassesOwn.never (pt_cmpR (op_neNil K hr.units) (pv 4) (pe_lst pa_nil) (nomark _)) (pss_one (ps_for PassesOwn.never rfl (pi_list (pe_lget P w K (hu_of hr) (pe_fld (pv 0) rfl) (pe_bm0 PySem.F.plainAttrs_list PySem.F.slot_list_pop PySem.F.type_list_pop mt_pop (pv 4)) (fun _ _ => rfl))) (pg_name (i := 5) sc_ImplicationGraph_reachable.nd rfl (Or.inl rfl)) (pss_one (ps_if (pt_cmp (pc_lnotin P w K (hu_of hr) (pv 5) (pv 2))) (pss_cons (ps_lput P w K (hu_of hr) (pv 2) (pv 5) pe_bl rfl)
      (pss_one (ps_expr (pe_bm PySem.F.plainAttrs_list PySem.F.slot_list_append PySem.F.type_list_append mt_append (pv 4) (pa_cons (pv 5) pa_nil))))) pss_nil)))))
      (pss_one (ps_ret (pv 2)))))), ?_⟩
    obtain ⟨x0, ex0, rx0⟩ : ∃ x, xa = [x] ∧ rLit K H x l0 := by
      cases hla with
      | cons r t =>
        cases t
        exact ⟨_, rfl, r⟩
    subst ex0
    obtain ⟨a0, rfl, ha0⟩ := litB rx0
    refine ⟨_, rfl, pa, rfl, ⟨_, ha⟩, fun D hD => ?_⟩
    have gD : upd H D (LD P w D []) D = some (LD P w D []) := upd_same
    refine ⟨fun i m H1 => (i = 0 ∧ m = 1 ∧ H1 = upd H D (LD P w D [])) ∨ (i = 1 ∧ m = 0 ∧ H1 = upd H D (LD P w D [(l0, a0, .bl true)])), ⟨1, .inl ⟨rfl, rfl, rfl⟩⟩, ?_⟩
    rintro i m H1 (⟨rfl, rfl, rfl⟩ | ⟨rfl, rfl, rfl⟩)
    · have e1 : Ex H (upd H D (LD P w D [])) := Ex.new hD
      refine .inr ⟨⟨_, _, ex_l e1 ha, rfl⟩, fun H' => H' = upd H D (LD P w D [(l0, a0, .bl true)]), fun H' h => ⟨0, by omega, .inr ⟨rfl, rfl, h⟩⟩, fun x H' y => ?_⟩
      obtain ⟨rfl, y⟩ := y
      have ex := y _ (ex_l e1 ha)
      cases ex
      refine ⟨rfl, yesT (iteT ?_)⟩
      exact ⟨_, rfl, [], l0, a0, rfl, ex_t e1 ha0, gD, fun _ h => (nomatch h), by decide, by rw [upd_upd]; rfl⟩
    have e1 : Ex H (upd H D (LD P w D [(l0, a0, .bl true)])) := Ex.new hD
    refine .inl ⟨⟨_, ex_l e1 ha, Nat.le_refl _⟩, ?_⟩
    have gD1 : upd H D (LD P w D [(l0, a0, .bl true)]) D = some (LD P w D [(l0, a0, .bl true)]) := upd_same
    have kD1 : LKs K (upd H D (LD P w D [(l0, a0, .bl true)])) [(l0, a0, .bl true)] := fun p hp => by
      simp at hp
      subst hp
      exact ex_t e1 ha0
    generalize upd H D (LD P w D [(l0, a0, .bl true)]) = H1 at e1 gD1 kD1
    refine ⟨_, rfl, D, _, rfl, .inl gD1, fun p hp => ?_⟩
    have nDp : D ≠ p := fun z => by rw [← z, gD1] at hp; cases hp
    have p0 := fresh_back e1 hp
    refine ⟨fun m σ' H' => ∃ i xs kvs o5, σ' = [some (.ref g), some (.ref pa), some (.ref D), none, some (.ref p), o5] ∧ Ex H H' ∧ H' D = some (LD P w D kvs) ∧ LKs K H' kvs ∧ H' p = some (.lst xs) ∧
      LR (rLit K) H' xs (iterN (reachStep S) i ([l0], [l0])).2 ∧ kvs.map (·.1) = (iterN (reachStep S) i ([l0], [l0])).1 ∧ m = muR U (iterN (reachStep S) i ([l0], [l0])) ∧ i + m ≤ fuel ∧ ROk U (iterN (reachStep S) i ([l0], [l0])), ⟨_, 0, _, _, none, rfl, e1.trans (Ex.new hp), (Ex.new hp) _ _ gD1, kD1.mono (Ex.new hp), upd_same, ?_, rfl, rfl, ?_, rok_start hl0⟩, ?_⟩
    · exact .cons ⟨a0, _, _, rfl, ex_t (e1.trans (Ex.new hp)) ha0, rfl, rfl⟩ .nil
    · show 0 + (2 * (U.length - 1) + 1) ≤ fuel
      unfold fuel
      have := hU.2.1
      omega
    · rintro m σ' H2 ⟨i, xs, kvs, o5, rfl, e2, h2D, h2k, h2p, hlr, hks, rfl, hfu, rok⟩
      generalize hst : iterN (reachStep S) i ([l0], [l0]) = st at hlr hks hfu rok
      refine ⟨_, rfl, by show 0 ≤ sizeLine; decide, fun q hq => ⟨p, q, xs, rfl, rfl, ?_, sq_of upd_same, ?_⟩⟩
      · exact sq_of ((Ex.new hq) _ _ h2p)
      have e3 : Ex H2 (upd H2 q (.lst [])) := Ex.new hq
      generalize upd H2 q (.lst []) = H3 at e3
      cases hsl : st.2.getLast? with
      | none =>
        have es : st.2 = [] := List.getLast?_eq_none_iff.mp hsl
        have ex : xs = [] := (lr_nil hlr).mpr es
        refine ⟨false, by rw [decide_eq_true ex]; rfl, iteF ?_⟩
        refine ⟨_, rfl, k D H3 kvs hD (e2.trans e3) (e3 _ _ h2D) (h2k.mono e3) ?_⟩
        rw [reach_done (i := i) (by omega) (by rw [hst]; exact es), hst]
        exact hks
      | some x =>
        have ex : xs ≠ [] := fun z => by rw [(lr_nil hlr).mp z] at hsl; cases hsl
        refine ⟨true, by rw [decide_eq_false ex]; rfl, iteT ⟨_, fun _ _ h => h, ?_⟩⟩
        have e03 := e2.trans e3
        obtain ⟨y, hy, ry⟩ := lr_last hlr hsl
        have h3p := e3 _ _ h2p
        have xU : x ∈ U := rok.sub x (rok.pen x (List.mem_of_getLast? hsl))
        refine ⟨_, rfl, g, _, dxg, _, _, rfl, e03 _ _ hgi, T.c_ImplicationGraph, T.n_ImplicationGraph_successors, rfl, ?_⟩
        refine ⟨_, rfl, .inl ⟨rfl, _, sq_of h3p⟩, p, xs, y, rfl, rfl, h3p, hy, ?_⟩
        have e04 : Ex H (upd H3 p (.lst xs.dropLast)) := Ex.mut e03 p0
        have h4D : (upd H3 p (.lst xs.dropLast)) D = some (LD P w D kvs) := by rw [upd_ne nDp]; exact e3 _ _ h2D
        have h4k : LKs K (upd H3 p (.lst xs.dropLast)) kvs := lks_lst h3p (h2k.mono e3)
        have h4r : LR (rLit K) (upd H3 p (.lst xs.dropLast)) xs.dropLast st.2.dropLast := lst_R h3p (lr_drop (hlr.mono mLit e3))
        have h4y := bLit H3 p xs xs.dropLast y x h3p (mLit _ _ _ _ e3 ry)
        have h4p : (upd H3 p (.lst xs.dropLast)) p = some (.lst xs.dropLast) := upd_same
        generalize upd H3 p (.lst xs.dropLast) = H4 at e04 h4D h4k h4r h4y h4p
        obtain ⟨vs, hvs, rvs⟩ := rGr.at (P := P) (w := w) (K := K) (dx := dxg) (g := g) (d := dg) (H := H) hgu hgv xU
        refine ⟨dg, kg, x, vs, rfl, h4y, hgd.mono e04, hvs, ?_⟩
        obtain ⟨ls, ys, rfl, hls, hly⟩ := rvs
        have hylen := hly.length
        have nd2 : (st.1, st.2.dropLast).1.Nodup := rok.nd
        have stp : iterN (reachStep S) (i + 1) ([l0], [l0]) = (S x).foldl pushR (st.1, st.2.dropLast) := by
          show reachStep S (iterN (reachStep S) i ([l0], [l0])) = _
          rw [hst]
          unfold reachStep
          rw [hsl]
        refine ⟨ls, rfl, ⟨ys, ex_l e04 hls⟩, for_list (K := K) (a := ls) (xs := ys) (fun (j : Nat) (σ' : L2.St) (H' : Hp) => ∃ xs kvs o5, σ' = [some (.ref g), some (.ref pa), some (.ref D), none, some (.ref p), o5] ∧ Ex H H' ∧ H' D = some (LD P w D kvs) ∧ LKs K H' kvs ∧ H' p = some (.lst xs) ∧
          LR (rLit K) H' xs (((S x).take j).foldl pushR (st.1, st.2.dropLast)).2 ∧ kvs.map (·.1) = (((S x).take j).foldl pushR (st.1, st.2.dropLast)).1 ∧ ROk U (((S x).take j).foldl pushR (st.1, st.2.dropLast))) ⟨_, _, _, rfl, e04, h4D, h4k, h4p, h4r, hks, rok_pop rok⟩ (fun j σ' H' _ ⟨_, _, _, _, e, _⟩ => ex_l e hls) ?_ ?_⟩
        · rintro j v σ' H5 hj ⟨xs5, kvs5, o5', rfl, e5, h5D, h5k, h5p, h5r, h5s, rok5⟩
          obtain ⟨m, hm, rm⟩ := (hly.mono mLit e5).getV hj
          have mU : m ∈ U := hU.1 x m (List.mem_of_getElem? hm)
          have tk : (S x).take (j + 1) = (S x).take j ++ [m] := by rw [List.take_succ, hm]; rfl
          have fl : ((S x).take (j + 1)).foldl pushR (st.1, st.2.dropLast) = pushR (((S x).take j).foldl pushR (st.1, st.2.dropLast)) m := by rw [tk, List.foldl_append]; rfl
          obtain ⟨rok6, _⟩ := rok_push rok5 mU
          rw [fl]
          generalize ((S x).take j).foldl pushR (st.1, st.2.dropLast) = t5 at h5r h5s rok5 rok6
          refine ⟨_, rfl, _, rfl, D, kvs5, m, rfl, rm, lok_of h5D h5k, ?_⟩
          rw [lkV_isSome, h5s]
          by_cases hmem : m ∈ t5.1
          · refine ⟨false, by rw [decide_eq_true hmem]; rfl, iteF ?_⟩
            have ep : pushR t5 m = t5 := by unfold pushR; rw [if_pos hmem]
            rw [ep] at rok6 ⊢
            exact ⟨_, _, _, rfl, e5, h5D, h5k, h5p, h5r, h5s, rok6⟩
          · refine ⟨true, by rw [decide_eq_false hmem]; rfl, iteT ?_⟩
            have ep : pushR t5 m = (t5.1 ++ [m], t5.2 ++ [m]) := by unfold pushR; rw [if_neg hmem]
            obtain ⟨am, rfl, ham⟩ := litB rm
            have l5 : kvs5.length ≤ 40 := by
              have z := congrArg List.length h5s
              rw [List.length_map] at z
              have := rok5.le
              have := hU.2.1
              omega
            refine ⟨_, rfl, _, rfl, D, am, kvs5, m, rfl, rfl, ham, h5D, h5k, sz_lt (by omega), ?_⟩
            have n5 : m ∉ kvs5.map (·.1) := by rw [h5s]; exact hmem
            have h6p : (upd H5 D (LD P w D (lput kvs5 m am (.bl true)))) p = some (.lst xs5) := by rw [upd_ne (Ne.symm nDp)]; exact h5p
            refine ⟨_, rfl, .inl ⟨rfl, _, sq_of h6p⟩, _, rfl, p, xs5, _, rfl, rfl, h6p, ?_, ?_⟩
            · have := h5r.length
              have := rok5.len
              have := rok5.le
              have := hU.2.1
              exact sz_lt (by omega)
            rw [ep] at rok6 ⊢
            have h7D : (upd (upd H5 D (LD P w D (lput kvs5 m am (.bl true)))) p (.lst (xs5 ++ [.ref am]))) D = some (LD P w D (lput kvs5 m am (.bl true))) := by rw [upd_ne nDp]; exact upd_same
            have ltup : ∀ {l : List V} {ls2 : List Lit}, LR (rLit K) H5 l ls2 → LR (rLit K) (upd (upd H5 D (LD P w D (lput kvs5 m am (.bl true)))) p (.lst (xs5 ++ [.ref am]))) l ls2 := fun h => lst_R h6p (no_ldR h5D h)
            refine ⟨_, _, _, rfl, Ex.mut (Ex.mut e5 hD) p0, h7D, lks_lst h6p (lks_put (h5k.updO h5D no_ld) (sqt_updO h5D no_ld ham)), upd_same, ?_, ?_, rok6⟩
            · exact (ltup h5r).snoc (bLit _ p _ _ _ _ h6p (rLit_updO h5D no_ld ⟨am, _, _, rfl, ham, rfl, rfl⟩))
            · rw [lput_new _ _ n5, List.map_append, h5s]
              rfl
        · rintro σ' H5 ⟨xs5, kvs5, o5', rfl, e5, h5D, h5k, h5p, h5r, h5s, rok5⟩
          rw [hylen, List.take_length] at h5r h5s rok5
          rw [← stp] at h5r h5s rok5
          have dec := (rok_step hU rok hsl).2
          have stp2 : reachStep S st = iterN (reachStep S) (i + 1) ([l0], [l0]) := by
            show _ = reachStep S (iterN (reachStep S) i ([l0], [l0]))
            rw [hst]
          rw [stp2] at dec
          exact ⟨_, dec, i + 1, xs5, kvs5, o5', rfl, e5, h5D, h5k, h5p, h5r, h5s, rfl, by omega, rok5⟩
end
end K19

/-! ## K19K -/
set_option Elab.async false
set_option linter.all false
set_option maxRecDepth 100000
set_option maxHeartbeats 4000000
namespace K19
open PySem PySem.Spec PyProof.Rows L2 Evl

theorem sc_ImplicationGraph_distances_to : FnScope ["self", "goal", "distances", "level", "following", "literal", "successor", "distance"] p_ImplicationGraph_distances_to (defScope s_ImplicationGraph_distances_to) := ⟨rfl, rfl, rfl, by decide +kernel, rfl, by decide +kernel, by decide +kernel⟩
theorem negD_keys (D : DL) : (negD D).map (·.1) = (D.map (·.1)).map neg := by unfold negD; simp
/-- a dict of distances -/
def DK (kvs : List Ent) (D : DL) : Prop := kvs.map (fun e => (e.1, e.2.2)) = D.map (fun p => (p.1, V.int p.2))
theorem DK.keys {kvs : List Ent} {D : DL} (h : DK kvs D) : kvs.map (·.1) = D.map (·.1) := by
  have z := congrArg (List.map (·.1)) h
  rw [List.map_map, List.map_map] at z
  exact z
theorem DK.len {kvs : List Ent} {D : DL} (h : DK kvs D) : kvs.length = D.length := by
  have z := congrArg List.length h
  simpa using z
theorem DK.get : ∀ {kvs : List Ent} {D : DL} (l : Lit), DK kvs D → lkV kvs l = (dget D l).map V.int
  | [], [], _, _ => rfl
  | [], _ :: _, _, h => nomatch h
  | _ :: _, [], _, h => nomatch h
  | e :: r, p :: q, l, h => by
    unfold DK at h
    rw [List.map_cons, List.map_cons] at h
    injection h with h1 h2
    injection h1 with h3 h4
    unfold lkV dget
    by_cases z : e.1 = l
    · rw [List.find?_cons_of_pos (by simpa using z), List.find?_cons_of_pos (by rw [← h3]; simpa using z)]
      exact congrArg some h4
    · rw [List.find?_cons_of_neg (by simpa using z), List.find?_cons_of_neg (by rw [← h3]; simpa using z)]
      exact DK.get l h2
theorem DK.put {kvs : List Ent} {D : DL} {l : Lit} {a : Addr} {d : Int} (h : DK kvs D) (hn : dget D l = none) : DK (lput kvs l a (.int d)) (D ++ [(l, d)]) := by
  have n : l ∉ kvs.map (·.1) := by rw [h.keys]; exact dget_none.mp hn
  rw [lput_new a _ n]
  unfold DK at h ⊢
  rw [List.map_append, List.map_append, h]
  rfl
/-- a dict of distances is handed back -/
def RetDi (P : Program) (w : World) (K : PySem.W.Frag) (D : DL) (H : Hp) (Q : VK) : Prop := ∀ d H' kvs, H d = none → Ex H H' → H' d = some (LD P w d kvs) → LKs K H' kvs → DK kvs D → Q (.ref d) H'
def spDist (P : Program) (w : World) (K : PySem.W.Frag) : Sp := fun vs H Q _ => ∃ vg vl U S goal, vs = [vg, vl] ∧ rGr P w K U S H vg ∧ Uok U S ∧ neg goal ∈ U ∧ rLit K H vl goal ∧ RetDi P w K (negD (distOf S (neg goal))) H Q
section
variable {P : Program} {w : World} {K : PySem.W.Frag} {mg : Str → Option Value} {base : Heap}
theorem ok_ImplicationGraph_distances_to (T : Txt K mg) : Met P w K mg base CX0 2 (He.ga K "ImplicationGraph") "distances_to" (spDist P w K) := by
  refine met0 (N := ["self", "goal", "distances", "level", "following", "literal", "successor", "distance"]) T.c_ImplicationGraph T.m_ImplicationGraph_distances_to T.D_ImplicationGraph_distances_to sc_ImplicationGraph_distances_to (fun vs H Q E h => ?_) fun cdv A outer s H vs Q E hr h => ?_
  · obtain ⟨_, _, _, _, _, rfl, _⟩ := h; rfl
  · obtain ⟨vg, vl, U, S, goal, rfl, ⟨g, dxg, dg, kg, rfl, hgi, hgd, hgu, hgv⟩, hU, hgo, rgo, k⟩ := h
    refine ⟨_, (pss_cons (ps_par (i := 2) (j := 3) rfl sc_ImplicationGraph_distances_to.nd rfl rfl (by decide) rfl rfl (pa_cons (pe_ldisp (hu_of hr) (pe_c (ok_negate (P := P) (w := w) (base := base) T) hr (by decide) rfl pass0 (pa_cons (pv 1) pa_nil)) pe_int) (pa_cons (pe_lst (pa_cons (pe_c (ok_negate (P := P) (w := w) (base := base) T) hr (by decide) rfl pass0 (pa_cons (pv 1) pa_nil)) pa_nil)) pa_nil)) (by rfl))
      (pss_cons (ps_while PassesOwn.never (pt_cmpR (op_neNil K hr.units) (pv 3) (pe_lst pa_nil) (nomark _)) (pss_cons (ps_set (i := 4) sc_ImplicationGraph_distances_to.nd rfl (Or.inl rfl) (pe_lst pa_nil))
      (pss_cons (ps_for PassesOwn.never rfl (pi_list (pv 3)) (pg_name (i := 5) sc_ImplicationGraph_distances_to.nd rfl (Or.inl rfl)) (pss_one (ps_for PassesOwn.never rfl (pi_list (pe_lget P w K (hu_of hr) (pe_fld (pv 0) rfl) (pv 5) (fun _ _ => rfl))) (pg_name (i := 6) sc_ImplicationGraph_distances_to.nd rfl (Or.inl rfl)) (pss_one (ps_if (pt_cmp (pc_lnotin P w K (hu_of hr) (pv 6) (pv 2))) (pss_cons (ps_lput P w K (hu_of hr) (pv 2) (pv 6) (pe_op op_add (pe_lget P w K (hu_of hr) (pv 2) (pv 5) (fun _ _ => rfl)) pe_int) rfl)
      (pss_one (ps_expr (pe_bm PySem.F.plainAttrs_list PySem.F.slot_list_append PySem.F.type_list_append mt_append (pv 4) (pa_cons (pv 6) pa_nil))))) pss_nil)))))
      (pss_one (ps_set (i := 3) sc_ImplicationGraph_distances_to.nd rfl (Or.inl rfl) (pv 4))))))
      (pss_one (ps_ret (pe_lock (pe_ldc (own := [("literal", 5), ("distance", 7)]) (g := gTup K 2 (gCons (gName 5) (gCons (gName 7) gNil))) (tt := tYes) (hu_of hr) rfl sc_ImplicationGraph_distances_to.nd (pi_litems (pv 2)) (blkOk_by (N := ["self", "goal", "distances", "level", "following", "literal", "successor", "distance"]) (sc := defScope s_ImplicationGraph_distances_to) (by decide +kernel)) (fun _ _ _ _ _ => (pgT K rfl (pgs_cons (pg_name (i := 5) sc_ImplicationGraph_distances_to.nd rfl (Or.inl rfl)) (pgs_cons (pg_name (i := 7) sc_ImplicationGraph_distances_to.nd rfl (Or.inl rfl)) pgs_nil)))) (fun _ _ _ _ _ => pts_nil) (fun _ _ _ _ _ => (pe_c (ok_negate (P := P) (w := w) (base := base) T) hr (by decide) rfl pass0 (pa_cons (pv 5) pa_nil))) (fun _ _ _ _ _ => (pv 7)))))))), ?_⟩
    have U40 := hU.2.1
    refine fun D hD => ⟨_, rfl, _, goal, rfl, mLit _ _ _ _ (Ex.new hD) rgo, fun y H1 e1 ry => ?_⟩
    obtain ⟨ay, rfl, hay⟩ := litB ry
    have h1D := e1 _ _ (upd_same (H := H) (a := D) (o := LD P w D []))
    refine ⟨neg goal, ay, rfl, hay, h1D, _, rfl, _, goal, rfl, ?_, fun z H2 e2 rz => ?_⟩
    · exact rLit_updL h1D (mLit _ _ _ _ ((Ex.new hD).trans e1) rgo)
    refine ⟨by show 1 ≤ sizeLine; decide, fun pl hpl => ⟨_, _, rfl, ?_⟩⟩
    have eA : Ex H (upd H1 D (LD P w D [(neg goal, ay, .int 0)])) := Ex.mut ((Ex.new hD).trans e1) hD
    have eB := eA.trans e2
    have e3 := eB.trans (Ex.new (o := .lst [z]) hpl)
    have h3D : (upd H2 pl (.lst [z])) D = some (LD P w D [(neg goal, ay, .int 0)]) := (Ex.new hpl) _ _ (e2 _ _ upd_same)
    have h3k : LKs K (upd H2 pl (.lst [z])) [(neg goal, ay, .int 0)] := fun p hp => by
      simp at hp
      subst hp
      exact ex_t (e2.trans (Ex.new hpl)) (sqt_updO h1D no_ld hay)
    have h3p : (upd H2 pl (.lst [z])) pl = some (.lst [z]) := upd_same
    have h3z : LR (rLit K) (upd H2 pl (.lst [z])) [z] [neg goal] := .cons (mLit _ _ _ _ (Ex.new hpl) rz) .nil
    generalize upd H2 pl (.lst [z]) = H3 at e3 h3D h3k h3p h3z
    refine ⟨fun m σ' H' => ∃ i xs kvs pl o4 o5 o6, σ' = [some (.ref g), some vl, some (.ref D), some (.ref pl), o4, o5, o6, none] ∧ Ex H H' ∧ H' D = some (LD P w D kvs) ∧ LKs K H' kvs ∧ H' pl = some (.lst xs) ∧
      LR (rLit K) H' xs (iterN (bfsStep S) i ([(neg goal, 0)], [neg goal])).2 ∧ DK kvs (iterN (bfsStep S) i ([(neg goal, 0)], [neg goal])).1 ∧ m = muB U (iterN (bfsStep S) i ([(neg goal, 0)], [neg goal])) ∧ i + m ≤ fuel, ⟨_, 0, _, _, pl, none, none, none, rfl, e3, h3D, h3k, h3p, h3z, rfl, rfl, ?_⟩, ?_⟩
    · show 0 + (2 * (U.length - 1) + 1) ≤ fuel
      unfold fuel
      omega
    · rintro m σ' H4 ⟨i, xs, kvs, pl, o4, o5, o6, rfl, e4, h4D, h4k, h4p, h4r, h4s, rfl, hfu⟩
      have bst := bst_iter hU hgo i
      generalize hst : iterN (bfsStep S) i ([(neg goal, 0)], [neg goal]) = st at h4r h4s hfu bst
      refine ⟨_, rfl, by show 0 ≤ sizeLine; decide, fun q hq => ⟨pl, q, xs, rfl, rfl, sq_of ((Ex.new hq) _ _ h4p), sq_of upd_same, ?_⟩⟩
      have e5 : Ex H4 (upd H4 q (.lst [])) := Ex.new hq
      generalize upd H4 q (.lst []) = H5 at e5
      by_cases es : st.2 = []
      · have ex : xs = [] := (lr_nil h4r).mpr es
        refine ⟨false, by rw [decide_eq_true ex]; rfl, iteF ?_⟩
        have ed : distOf S (neg goal) = st.1 := by rw [dist_done (i := i) (by omega) (by rw [hst]; exact es), hst]
        rw [ed] at k
        have bok := bst.ok
        generalize st.1 = DD at h4s k bok
        have h5D := e5 _ _ h4D
        have h5k := h4k.mono e5
        have e05 := e4.trans e5
        clear h4r h4p
        refine ⟨D, _, h5D, ld_mut, fun od => ?_⟩
        have fz : upd H5 D (.frz od (LD P w D kvs)) D = some (.frz od (LD P w D kvs)) := upd_same
        have fkeys : LKs K (upd H5 D (.frz od (LD P w D kvs))) kvs := h5k.updO h5D no_ld
        have eF : Ex H (upd H5 D (.frz od (LD P w D kvs))) := Ex.mut e05 hD
        generalize upd H5 D (.frz od (LD P w D kvs)) = HF at fz fkeys eF
        refine ⟨_, rfl, D, od, kvs, rfl, fz, fun D2 hD2 => ?_⟩
        have nDD : D2 ≠ D := fun z => by rw [z, fz] at hD2; cases hD2
        have lkd := h4s.len
        have lDD := bok.le
        refine ⟨fun i m H6 => m = kvs.length - i ∧ i ≤ kvs.length ∧ ∃ k2, Ex HF H6 ∧ H6 D2 = some (LD P w D2 k2) ∧ LKs K H6 k2 ∧ DK k2 (negD (DD.take i)), ⟨_, rfl, Nat.zero_le _, [], Ex.new hD2, upd_same, fun _ h => (nomatch h), rfl⟩, ?_⟩
        rintro i m H6 ⟨rfl, hi, k2, e6, h6D, h6k, h6s⟩
        by_cases hlt : i < kvs.length
        · obtain ⟨en, hen⟩ : ∃ en, kvs[i]? = some en := ⟨kvs[i], by simp [hlt]⟩
          have hem := List.mem_of_getElem? hen
          obtain ⟨pd, hpd⟩ : ∃ pd, DD[i]? = some pd := ⟨DD[i]'(by omega), by simp [show i < DD.length by omega]⟩
          have epd : (en.1, en.2.2) = (pd.1, V.int pd.2) := by
            have z := congrArg (fun l => l[i]?) h4s
            simp only [List.getElem?_map, hen, hpd, Option.map_some] at z
            exact Option.some.inj z
          obtain ⟨ep1, ep2⟩ := Prod.mk.inj epd
          have tki : negD (DD.take (i + 1)) = negD (DD.take i) ++ [(neg pd.1, pd.2)] := by
            rw [List.take_succ, hpd]
            unfold negD
            rw [List.map_append]
            rfl
          have nin : dget (negD (DD.take i)) (neg pd.1) = none := by
            rw [dget_none]
            intro hm
            have z : ((DD.take (i + 1)).map (·.1)).Nodup := (bok.nd).sublist ((List.take_sublist ..).map _)
            rw [negD_keys] at hm
            obtain ⟨x, hx, ex⟩ := List.mem_map.mp hm
            have ex2 := neg_inj ex
            subst ex2
            rw [List.take_succ, hpd] at z
            simp only [List.map_append, List.nodup_append] at z
            exact z.2.2 _ hx _ (by simp) rfl
          refine .inr ⟨⟨e6 _ _ fz, hlt⟩, fun H' => ∃ k2, Ex HF H' ∧ H' D2 = some (LD P w D2 k2) ∧ LKs K H' k2 ∧ DK k2 (negD (DD.take (i + 1))), fun H' h => ⟨_, by omega, rfl, by omega, h⟩, fun x H' y => ?_⟩
          obtain ⟨Tp, en', hen', rfl, hT, rfl⟩ := y
          rw [hen] at hen'
          cases hen'
          have e7 : Ex H6 (upd H6 Tp (.tup [.ref en.2.1, en.2.2])) := Ex.new hT
          refine ⟨_, _, rfl, st_of upd_same, rfl, _, _, rfl, _, _, rfl, rfl, rfl, yesT (iteT ?_)⟩
          have kT := ex_t (e6.trans e7) (fkeys en hem)
          generalize upd H6 Tp (.tup [.ref en.2.1, en.2.2]) = H7 at e7 kT
          refine ⟨_, rfl, _, en.1, rfl, ⟨_, _, _, rfl, kT, rfl, rfl⟩, fun nv H8 e8 rn => ?_⟩
          obtain ⟨an, rfl, han⟩ := litB rn
          have e68 := e7.trans e8
          refine ⟨_, rfl, k2, neg en.1, an, rfl, han, e68 _ _ h6D, h6k.mono e68, ?_, ?_⟩
          · have z := h6s.len
            unfold negD at z
            rw [List.length_map, List.length_take] at z
            exact sz_lt (by omega)
          refine ⟨_, Ex.mut (e6.trans e68) hD2, upd_same, lks_put ((h6k.mono e68).updO (e68 _ _ h6D) no_ld) (sqt_updO (e68 _ _ h6D) no_ld han), ?_⟩
          rw [tki, ep2, ep1]
          exact h6s.put nin
        · have ei : i = kvs.length := by omega
          subst ei
          rw [lkd, List.take_length] at h6s
          refine .inl ⟨⟨e6 _ _ fz, Nat.le_refl _⟩, e6 _ _ fz, ?_⟩
          refine k D2 _ k2 (fresh_back eF hD2) ?_ (by rw [upd_ne nDD]; exact h6D) (h6k.updO (e6 _ _ fz) no_frz) h6s
          exact Ex.mut (eF.trans e6) hD
      · have ex : xs ≠ [] := fun z => es ((lr_nil h4r).mp z)
        refine ⟨true, by rw [decide_eq_false ex]; rfl, iteT ⟨_, fun _ _ h => h, ?_⟩⟩
        refine ⟨by show 0 ≤ sizeLine; decide, fun pf hpf => ?_⟩
        have e06 : Ex H (upd H5 pf (.lst [])) := (e4.trans e5).trans (Ex.new hpf)
        have pf0 : H pf = none := fresh_back (e4.trans e5) hpf
        have npf : pl ≠ pf := fun z => by
          have := e5 _ _ h4p
          rw [z, hpf] at this
          cases this
        have nDf : D ≠ pf := fun z => by
          have := e5 _ _ h4D
          rw [z, hpf] at this
          cases this
        have e56 : Ex H4 (upd H5 pf (.lst [])) := e5.trans (Ex.new hpf)
        have h6f : (upd H5 pf (.lst [])) pf = some (.lst []) := upd_same
        generalize upd H5 pf (.lst []) = H6 at e06 e56 h6f
        have h6D := e56 _ _ h4D
        have h6k := h4k.mono e56
        have h6p := e56 _ _ h4p
        have h6r := h4r.mono mLit e56
        have bst0 : BSt U S (neg goal) (st.1, []) := ⟨bst.ok, fun _ h => nomatch h⟩
        have stp2 : bfsStep S st = iterN (bfsStep S) (i + 1) ([(neg goal, 0)], [neg goal]) := by
          show _ = bfsStep S (iterN (bfsStep S) i ([(neg goal, 0)], [neg goal]))
          rw [hst]
        have dec := bst_mu hU bst es
        have hrl := h6r.length
        clear h4D h4k h4p h4r e56 e5
        refine ⟨_, rfl, pl, rfl, ⟨xs, sq_of h6p⟩, for_list (K := K) (a := pl) (xs := xs) (fun (j : Nat) (σ' : L2.St) (H' : Hp) => ∃ fs kvs o5 o6, σ' = [some (.ref g), some vl, some (.ref D), some (.ref pl), some (.ref pf), o5, o6, none] ∧ Ex H H' ∧ H' D = some (LD P w D kvs) ∧ LKs K H' kvs ∧ H' pl = some (.lst xs) ∧ LR (rLit K) H' xs st.2 ∧
          H' pf = some (.lst fs) ∧ LR (rLit K) H' fs ((st.2.take j).foldl (bfsLit S) (st.1, [])).2 ∧ DK kvs ((st.2.take j).foldl (bfsLit S) (st.1, [])).1) ⟨_, _, _, _, rfl, e06, h6D, h6k, h6p, h6r, h6f, .nil, h4s⟩ (fun j σ' H' _ ⟨_, _, _, _, _, _, _, _, h, _⟩ => sq_of h) ?_ ?_⟩
        · rintro j v σ' H7 hj ⟨fs, kvs, o5, o6, rfl, e7, h7D, h7k, h7p, h7r, h7f, h7t, h7s⟩
          obtain ⟨l, hl, rl⟩ := h7r.getV hj
          have lin : l ∈ st.2 := List.mem_of_getElem? hl
          have tk : st.2.take (j + 1) = st.2.take j ++ [l] := by rw [List.take_succ, hl]; rfl
          have fl : (st.2.take (j + 1)).foldl (bfsLit S) (st.1, []) = bfsLit S ((st.2.take j).foldl (bfsLit S) (st.1, [])) l := by rw [tk, List.foldl_append]; rfl
          obtain ⟨bsj, grj⟩ := bst_lits hU (ls := st.2.take j) bst0 fun x hx => bst.lv x (List.mem_of_mem_take hx)
          have lget : (dget ((st.2.take j).foldl (bfsLit S) (st.1, [])).1 l).isSome = true := by
            rw [grj.keep l (bst.lv l lin)]
            exact bst.lv l lin
          rw [fl]
          generalize (st.2.take j).foldl (bfsLit S) (st.1, []) = tj at h7t h7s bsj lget grj
          obtain ⟨d, hd⟩ := Option.isSome_iff_exists.mp lget
          have el : bfsLit S tj l = (S l).foldl (bfsPut d) tj := by unfold bfsLit; rw [hd]; rfl
          rw [el]
          have lU : l ∈ U := by
            have := bsj.ok.sub _ (dget_mem hd)
            exact this
          obtain ⟨vs, hvs, ls, ys, rfl, hls, hly⟩ := rGr.at (P := P) (w := w) (K := K) (dx := dxg) (g := g) (d := dg) (H := H) hgu hgv lU
          refine ⟨_, rfl, g, _, dxg, _, _, rfl, e7 _ _ hgi, T.c_ImplicationGraph, T.n_ImplicationGraph_successors, rfl, ?_⟩
          refine ⟨_, rfl, dg, kg, l, _, rfl, rl, hgd.mono e7, hvs, ?_⟩
          have hylen := hly.length
          refine ⟨ls, rfl, ⟨ys, ex_l e7 hls⟩, for_list (K := K) (a := ls) (xs := ys) (fun (j2 : Nat) (σ' : L2.St) (H' : Hp) => ∃ fs kvs o6, σ' = [some (.ref g), some vl, some (.ref D), some (.ref pl), some (.ref pf), some v, o6, none] ∧ Ex H H' ∧ H' D = some (LD P w D kvs) ∧ LKs K H' kvs ∧ H' pl = some (.lst xs) ∧ LR (rLit K) H' xs st.2 ∧ rLit K H' v l ∧
            H' pf = some (.lst fs) ∧ LR (rLit K) H' fs (((S l).take j2).foldl (bfsPut d) tj).2 ∧ DK kvs (((S l).take j2).foldl (bfsPut d) tj).1) ⟨_, _, _, rfl, e7, h7D, h7k, h7p, h7r, rl, h7f, h7t, h7s⟩ (fun j σ' H' _ ⟨_, _, _, _, e, _⟩ => ex_l e hls) ?_ ?_⟩
          · rintro j2 v2 σ' H8 hj2 ⟨fs, kvs, o6, rfl, e8, h8D, h8k, h8p, h8r, h8l, h8f, h8t, h8s⟩
            obtain ⟨m, hm, rm⟩ := (hly.mono mLit e8).getV hj2
            have mS : m ∈ S l := List.mem_of_getElem? hm
            have tk2 : (S l).take (j2 + 1) = (S l).take j2 ++ [m] := by rw [List.take_succ, hm]; rfl
            have fl2 : ((S l).take (j2 + 1)).foldl (bfsPut d) tj = bfsPut d (((S l).take j2).foldl (bfsPut d) tj) m := by rw [tk2, List.foldl_append]; rfl
            obtain ⟨bs2, gr2⟩ := bst_fold hU (ms := (S l).take j2) bsj hd fun x hx => List.mem_of_mem_take hx
            have lg2 : dget (((S l).take j2).foldl (bfsPut d) tj).1 l = some d := by rw [gr2.keep l lget]; exact hd
            rw [fl2]
            generalize ((S l).take j2).foldl (bfsPut d) tj = t8 at h8t h8s bs2 lg2 gr2
            refine ⟨_, rfl, _, rfl, D, kvs, m, rfl, rm, lok_of h8D h8k, ?_⟩
            rw [h8s.get m]
            have l8 : kvs.length ≤ 40 := by
              have := h8s.len
              have := bs2.ok.le
              omega
            have lf : fs.length ≤ 40 := by
              have := h8t.length
              have z : t8.2.length ≤ t8.1.length := by
                have := gr2.eq
                have := grj.eq
                simp only [List.length_nil] at this
                omega
              have := bs2.ok.le
              omega
            cases hdm : dget t8.1 m with
            | some dm =>
              refine ⟨false, rfl, iteF ?_⟩
              have ep : bfsPut d t8 m = t8 := by unfold bfsPut; rw [hdm]; rfl
              rw [ep]
              exact ⟨_, _, _, rfl, e8, h8D, h8k, h8p, h8r, h8l, h8f, h8t, h8s⟩
            | none =>
              refine ⟨true, rfl, iteT ?_⟩
              have ep : bfsPut d t8 m = (t8.1 ++ [(m, d + 1)], t8.2 ++ [m]) := by unfold bfsPut; rw [hdm]; rfl
              rw [ep]
              obtain ⟨am, rfl, ham⟩ := litB rm
              refine ⟨_, rfl, _, rfl, D, kvs, l, .int d, rfl, h8l, lok_of h8D h8k, by rw [h8s.get l, lg2]; rfl, d, 1, rfl, rfl, ?_⟩
              refine ⟨_, rfl, _, rfl, D, am, kvs, m, rfl, rfl, ham, h8D, h8k, sz_lt (by omega), ?_⟩
              have h9f : (upd H8 D (LD P w D (lput kvs m am (.int (d + 1))))) pf = some (.lst fs) := by rw [upd_ne (Ne.symm nDf)]; exact h8f
              refine ⟨_, rfl, .inl ⟨rfl, _, sq_of h9f⟩, _, rfl, pf, fs, _, rfl, rfl, h9f, sz_lt (by omega), ?_⟩
              have ltup : ∀ {l : List V} {ls2 : List Lit}, LR (rLit K) H8 l ls2 → LR (rLit K) (upd (upd H8 D (LD P w D (lput kvs m am (.int (d + 1))))) pf (.lst (fs ++ [.ref am]))) l ls2 := fun h => lst_R h9f (no_ldR h8D h)
              have nDp : pl ≠ D := fun z => by rw [z, h8D] at h8p; exact ld_ne_lst (Option.some.inj h8p).symm
              refine ⟨_, _, _, rfl, Ex.mut (Ex.mut e8 hD) pf0, by rw [upd_ne nDf]; exact upd_same, lks_lst h9f (lks_put (h8k.updO h8D no_ld) (sqt_updO h8D no_ld ham)), by rw [upd_ne npf, upd_ne nDp]; exact h8p, ltup h8r, ?_, upd_same, ?_, h8s.put hdm⟩
              · exact bLit _ pf _ _ _ _ h9f (rLit_updO h8D no_ld h8l)
              · exact (ltup h8t).snoc (bLit _ pf _ _ _ _ h9f (rLit_updO h8D no_ld ⟨am, _, _, rfl, ham, rfl, rfl⟩))
          · rintro σ' H8 ⟨fs, kvs, o6, rfl, e8, h8D, h8k, h8p, h8r, h8l, h8f, h8t, h8s⟩
            rw [hylen, List.take_length] at h8t h8s
            exact ⟨_, _, _, _, rfl, e8, h8D, h8k, h8p, h8r, h8f, h8t, h8s⟩
        · rintro σ' H7 ⟨fs, kvs, o5, o6, rfl, e7, h7D, h7k, h7p, h7r, h7f, h7t, h7s⟩
          rw [hrl, List.take_length] at h7t h7s
          have eb : st.2.foldl (bfsLit S) (st.1, []) = iterN (bfsStep S) (i + 1) ([(neg goal, 0)], [neg goal]) := stp2
          rw [eb] at h7t h7s
          rw [stp2] at dec
          exact ⟨_, rfl, _, dec, i + 1, fs, kvs, pf, _, _, _, rfl, e7, h7D, h7k, h7f, h7t, h7s, rfl, by omega⟩
end
end K19

/-! ## K19Q -/
set_option Elab.async false
set_option linter.all false
set_option maxRecDepth 100000
set_option maxHeartbeats 4000000
namespace K19
open PySem PySem.Spec PyProof.Rows L2 Evl

theorem sc_ImplicationGraph_shortest_chain : FnScope ["self", "start", "goal", "distances", "result", "remaining", "closer", "literal"] p_ImplicationGraph_shortest_chain (defScope s_ImplicationGraph_shortest_chain) := ⟨rfl, rfl, rfl, by decide +kernel, rfl, by decide +kernel, by decide +kernel⟩
/-- None, or a new list -/
def RetO {α : Type} (R : DR α) (o : Option (List α)) (H : Hp) (Q : VK) : Prop := match o with
  | none => ∀ H', Ex H H' → Q .non H'
  | some c => RetN R c H Q
def spChain (P : Program) (w : World) (K : PySem.W.Frag) : Sp := fun vs H Q _ => ∃ vg va vb U S start goal, vs = [vg, va, vb] ∧ rGr P w K U S H vg ∧ Uok U S ∧ SymE S ∧ neg goal ∈ U ∧ start ∈ U ∧ rLit K H va start ∧ rLit K H vb goal ∧ RetO (rLit K) (chainOf S start goal) H Q
theorem g_go {i : Nat} {v : V} {σ : L2.St} {H : Hp} {k : L2.St → Hp → Prop} (h : k (σ.set i (some v)) H) : gName i v σ H k := h
theorem getD_int {o : Option Int} {d : Int} : (o.map V.int).getD (.int d) = .int (o.getD d) := by cases o <;> rfl
theorem bl_int (a b : Int) : V.bl (decide (V.int a = V.int b)) = V.bl (decide (a = b)) := by
  congr 1
  simp
theorem chain_step_in {U : List Lit} {S : Lit → List Lit} {Dn : DL} {x c : Lit} {r : List Lit} (hU : Uok U S) (h : closerOf S Dn x = c :: r) : c ∈ U := by
  have : c ∈ closerOf S Dn x := by rw [h]; exact List.mem_cons_self ..
  unfold closerOf at this
  exact hU.1 x c (List.mem_filter.mp this).1
section
variable {P : Program} {w : World} {K : PySem.W.Frag} {mg : Str → Option Value} {base : Heap}
theorem ok_ImplicationGraph_shortest_chain (T : Txt K mg) : Met P w K mg base CX0 3 (He.ga K "ImplicationGraph") "shortest_chain" (spChain P w K) := by
  refine met0 (N := ["self", "start", "goal", "distances", "result", "remaining", "closer", "literal"]) T.c_ImplicationGraph T.m_ImplicationGraph_shortest_chain T.D_ImplicationGraph_shortest_chain sc_ImplicationGraph_shortest_chain (fun vs H Q E h => ?_) fun cdv A outer s H vs Q E hr h => ?_
  · obtain ⟨_, _, _, _, _, _, _, rfl, _⟩ := h; rfl
  · obtain ⟨vg, va, vb, U, S, start, goal, rfl, hg, hU, hsy, hgo, hst, rst, rgo, k⟩ := h
    obtain ⟨g, dxg, dg, kg, rfl, hgi, hgd, hgu, hgv⟩ := id hg
    refine ⟨_, (pss_cons (ps_set (i := 3) sc_ImplicationGraph_shortest_chain.nd rfl (Or.inr rfl) (pe_mt (ok_ImplicationGraph_distances_to (P := P) (w := w) (base := base) T) hr (by decide) pass0 (pv 0) (pa_cons (pv 2) pa_nil)))
      (pss_cons (ps_if (pt_cmp (pc_lnotin P w K (hu_of hr) (pv 1) (pv 3))) (pss_one (ps_ret pe_non)) pss_nil)
      (pss_cons (ps_set (i := 4) sc_ImplicationGraph_shortest_chain.nd rfl (Or.inl rfl) (pe_lst (pa_cons (pv 1) pa_nil)))
      (pss_cons (ps_while PassesOwn.never (pt_cmpR (op_neLit K hr.units) (pe_ix (ixL K) (pv 4) (pe_un un_neg pe_int) (fun _ _ => rfl)) (pv 2) (nomark _)) (pss_cons (ps_set (i := 5) sc_ImplicationGraph_shortest_chain.nd rfl (Or.inr rfl) (pe_op op_sub (pe_lget P w K (hu_of hr) (pv 3) (pe_ix (ixL K) (pv 4) (pe_un un_neg pe_int) (fun _ _ => rfl)) (fun _ _ => rfl)) pe_int))
      (pss_cons (ps_setLc (i := 6) (own := [("literal", 7)]) (g := gName 7) rfl sc_ImplicationGraph_shortest_chain.nd rfl rfl (sw_true rfl rfl rfl (by decide +kernel)) (pi_list (pe_lget P w K (hu_of hr) (pe_fld (pv 0) rfl) (pe_ix (ixL K) (pv 4) (pe_un un_neg pe_int) (fun _ _ => rfl)) (fun _ _ => rfl))) (blkOk_by (N := ["self", "start", "goal", "distances", "result", "remaining", "closer", "literal"]) (sc := defScope s_ImplicationGraph_shortest_chain) (by decide +kernel)) (fun _ _ _ _ _ => (pg_name (i := 7) sc_ImplicationGraph_shortest_chain.nd rfl (Or.inl rfl))) (fun _ _ _ _ _ => (pts_one (pt_cmpR op_eq (pe_lget2 P w K (hu_of hr) (pv 3) (pv 7) (pe_un un_neg pe_int) ⟨rfl, rfl, rfl, rfl⟩) (pv 5) (nomark _)))) (fun _ _ _ _ _ => (pv 7)))
      (pss_one (ps_expr (pe_bm PySem.F.plainAttrs_list PySem.F.slot_list_append PySem.F.type_list_append mt_append (pv 4) (pa_cons (pe_ix (ixL K) (pv 6) pe_int (fun _ _ => rfl)) pa_nil)))))))
      (pss_one (ps_ret (pv 4))))))), ?_⟩
    refine ⟨_, rfl, g, _, _, rfl, hgi, rfl, _, rfl, _, _, U, S, goal, rfl, hg, hU, hgo, rgo, fun D H1 kvs hD e1 h1D h1k hdk => ?_⟩
    have hd2 := hdk.get
    unfold chainOf at k
    generalize hDn : negD (distOf S (neg goal)) = Dn at hdk hd2 k
    refine ⟨_, rfl, _, rfl, D, kvs, start, rfl, mLit _ _ _ _ e1 rst, lok_of h1D h1k, ?_⟩
    rw [hd2 start]
    cases hds : dget Dn start with
    | none =>
      rw [hds] at k
      exact ⟨true, rfl, iteT (k H1 e1)⟩
    | some d0 =>
      rw [hds] at k
      refine ⟨false, rfl, iteF ?_⟩
      refine ⟨_, rfl, by show 1 ≤ sizeLine; decide, fun r hr0 => ?_⟩
      have bd0 := dist_bd hU hgo (by rw [hDn]; exact hds)
      refine ⟨fun m σ' H' => ∃ i xs x d o5 o6, σ' = [some (.ref g), some va, some vb, some (.ref D), some (.ref r), o5, o6, none] ∧ Ex H1 H' ∧ H' r = some (.lst xs) ∧ LR (rLit K) H' xs (iterN (chainStep S Dn goal) i [start]) ∧ (iterN (chainStep S Dn goal) i [start]).getLast? = some x ∧ x ∈ U ∧ dget Dn x = some d ∧ 0 ≤ d ∧ m = d.toNat ∧ i + d.toNat ≤ 40 ∧ xs.length = i + 1,
        ⟨_, 0, _, start, d0, none, none, rfl, Ex.new hr0, upd_same, .cons (mLit _ _ _ _ (e1.trans (Ex.new hr0)) rst) .nil, rfl, hst, hds, bd0.1, rfl, by omega, rfl⟩, ?_⟩
      rintro m σ' H2 ⟨i, xs, x, d, o5, o6, rfl, e2, h2r, h2l, hla, xU, hdx, hd0, rfl, hfu, hxl⟩
      obtain ⟨y, hy, ry⟩ := lr_last h2l hla
      have e02 := e1.trans e2
      refine ⟨_, rfl, _, rfl, r, xs, _, y, rfl, rfl, sq_of h2r, atM1 hy, _, rfl, x, goal, ry, mLit _ _ _ _ e02 rgo, ?_⟩
      by_cases hxg : x = goal
      · refine ⟨false, by rw [decide_eq_true hxg]; rfl, iteF ?_⟩
        subst hxg
        have k2 : RetN (rLit K) (iterN (chainStep S Dn x) fuel [start]) H Q := k
        rw [chain_done (i := i) (x := x) (by unfold fuel; omega) hla] at k2
        exact ⟨_, rfl, k2 r H2 xs (fresh_back e1 hr0) e02 h2r h2l⟩
      · refine ⟨true, by rw [decide_eq_false hxg]; rfl, iteT ⟨_, fun _ _ h => h, ?_⟩⟩
        obtain ⟨d1, c, rc, hcl, hdc⟩ := closer_ok hU hsy hgo (by rw [hDn]; exact hdx) hxg
        rw [hDn] at hcl hdc
        have gx : lkV kvs x = some (.int d) := by rw [hd2, hdx]; rfl
        refine ⟨_, rfl, _, rfl, _, rfl, r, xs, _, y, rfl, rfl, sq_of h2r, atM1 hy, D, kvs, x, .int d, rfl, ry, lok_of (e2 _ _ h1D) (h1k.mono e2), gx, d, 1, rfl, rfl, ?_⟩
        obtain ⟨vs, hvs, rvs⟩ := rGr.at (P := P) (w := w) (K := K) (dx := dxg) (g := g) (d := dg) (H := H) hgu hgv xU
        have hlen : (S x).length ≤ 40000 := Nat.le_trans (hU.2.2 x) (by decide)
        refine g_go ?_
        dsimp only
        refine q_asgN (R := rLit K) (evn_lcL (R := rLit K) (S := rLit K) (as := S x) (fun l => decide ((dget Dn l).getD (-1) = d - 1)) (fun l => l) (fun H3 e3 Q q => ?_) hlen mLit mLit (fun _ => rfl) (fun v l H3 _ e3 rv => ?_) fun v l H3 D2 l2 _ e3 hD20 hD2 rv _ => evr_at bLit hD2 ?_) fun pc H3 ys hpc e3 h3c h3l => ?_
        · refine ⟨_, rfl, g, _, dxg, _, _, rfl, (e02.trans e3) _ _ hgi, T.c_ImplicationGraph, T.n_ImplicationGraph_successors, rfl, ?_⟩
          refine ⟨_, rfl, _, rfl, r, xs, _, y, rfl, rfl, sq_of (e3 _ _ h2r), atM1 hy, dg, kg, x, vs, rfl, mLit _ _ _ _ e3 ry, hgd.mono (e02.trans e3), hvs, ?_⟩
          exact q _ _ (Ex.refl _) (mLst mLit _ _ _ _ (e02.trans e3) rvs)
        · intro H4 e4 Q q
          refine ⟨_, rfl, D, kvs, rfl, .inl (e4 _ _ (e3 _ _ (e2 _ _ h1D))), _, rfl, _, rfl, kvs, l, mLit _ _ _ _ e4 rv, lok_of (e4 _ _ (e3 _ _ (e2 _ _ h1D))) (h1k.mono ((e2.trans e3).trans e4)), ?_⟩
          rw [hd2, getD_int]
          exact ⟨_, rfl, rfl, _, bl_int _ _, q H4 (Ex.refl _)⟩
        · exact evr_var mLit rfl rv
        · have ecl : ((S x).filter (fun l => decide ((dget Dn l).getD (-1) = d - 1))).map (fun l => l) = closerOf S Dn x := by
            unfold closerOf
            rw [hdx]
            simp
          rw [ecl, hcl] at h3l
          obtain ⟨vc, hvc, rvc⟩ : ∃ vc, ys[0]? = some vc ∧ rLit K H3 vc c := h3l.get rfl
          have h3r := e3 _ _ h2r
          refine ⟨_, rfl, .inl ⟨rfl, _, sq_of h3r⟩, _, rfl, _, _, _, _, rfl, rfl, sq_of h3c, at0 hvc, r, xs, vc, rfl, rfl, h3r, sz_lt (by omega), ?_⟩
          have nx : iterN (chainStep S Dn goal) (i + 1) [start] = iterN (chainStep S Dn goal) i [start] ++ [c] := by
            show chainStep S Dn goal (iterN (chainStep S Dn goal) i [start]) = _
            rw [chainStep_go hla hxg, hcl]
            rfl
          refine ⟨_, ?_, i + 1, xs ++ [vc], c, d - 1, _, _, rfl, Ex.mut (e2.trans e3) hr0, upd_same, ?_, ?_, chain_step_in hU hcl, hdc, by omega, rfl, by omega, by simp; omega⟩
          · omega
          · rw [nx]
            exact (lst_R h3r (h2l.mono mLit e3)).snoc (bLit _ r _ _ _ _ h3r rvc)
          · rw [nx]
            simp
end
end K19

/-! ## K19R -/
set_option Elab.async false
set_option linter.all false
set_option maxRecDepth 100000
set_option maxHeartbeats 4000000
namespace K19
open PySem PySem.Spec PyProof.Rows L2 Evl
/-! ### new lists as items -/
def rNew {α : Type} (H0 : Hp) (R : DR α) : DR (List α) := fun H v as => ∃ p xs, v = .ref p ∧ H0 p = none ∧ H p = some (.lst xs) ∧ LR R H xs as
theorem mNew {α : Type} {H0 : Hp} {R : DR α} (m : Mono R) : Mono (rNew H0 R) := fun _ _ _ _ e ⟨p, xs, h1, h2, h3, h4⟩ => ⟨p, xs, h1, h2, e _ _ h3, h4.mono m e⟩
theorem rNew.lst {α : Type} {K : PySem.W.Frag} {H0 H : Hp} {R : DR α} {v : V} {as : List α} (h : rNew H0 R H v as) : rLst K R H v as := by
  obtain ⟨p, xs, h1, h2, h3, h4⟩ := h
  exact ⟨p, xs, h1, sq_of h3, h4⟩
/-- what a value stands for, seen in one heap -/
def rAt {α : Type} (Hs : Hp) (R : DR α) : DR α := fun _ v a => R Hs v a
theorem mAtS {α : Type} {Hs : Hp} {R : DR α} : Mono (rAt Hs R) := fun _ _ _ _ _ h => h
theorem LR.at {α : Type} {R : DR α} {H H' : Hp} {xs : List V} {as : List α} (h : LR R H xs as) : LR (rAt H R) H' xs as := h
/-- a list that is not D -/
theorem at_list {α : Type} {H0 Hs H D : _} {R : DR α} {l : List V} {v : V} {as : List α} (m : Mono R) (b : Rob R) (h : rNew H0 R Hs v as) (e : Ex Hs H) (hs : Hs D = none) (hD : H D = some (.lst l)) : At D (rNew H0 R) H v as := by
  obtain ⟨p, xs, rfl, h2, h3, h4⟩ := h
  have ne : p ≠ D := fun z => by rw [z, hs] at h3; cases h3
  refine ⟨⟨p, xs, rfl, h2, e _ _ h3, h4.mono m e⟩, fun ys => ⟨p, xs, rfl, h2, by rw [upd_ne ne]; exact e _ _ h3, (h4.mono m e).imp fun v a hv => b H D l ys v a hD hv⟩⟩
theorem at_newl {α : Type} {H0 H2 H3 : Hp} {D p : Addr} {R : DR α} {l xs : List V} {as : List α} (b : Rob R) (hp : H2 p = none) (hD : H2 D = some (.lst l)) (e : Ex H2 H3) (h0 : Ex H0 H2) (h3 : H3 p = some (.lst xs)) (hl : LR R H3 xs as) : At D (rNew H0 R) H3 (.ref p) as := by
  have ne : p ≠ D := fun z => by rw [z, hD] at hp; cases hp
  exact ⟨⟨p, xs, rfl, fresh_back h0 hp, h3, hl⟩, fun ys => ⟨p, xs, rfl, fresh_back h0 hp, by rw [upd_ne ne]; exact h3, hl.imp fun v a hv => b H3 D l ys v a (e _ _ hD) hv⟩⟩
theorem at_opt {α : Type} {D : Addr} {R : DR α} {H : Hp} {v : V} {a : α} (h : At D R H v a) : At D (rOpt R) H v (some a) := h
theorem at_non {α : Type} {D : Addr} {R : DR α} {H : Hp} : At D (rOpt R) H .non none := ⟨rfl, fun _ => rfl⟩
theorem at_t2 {α β : Type} {K : PySem.W.Frag} {D p : Addr} {R : DR α} {S : DR β} {H : Hp} {l : List V} {x y : V} {a : α} {b : β} (hD : H D = some (.lst l)) (hp : SqT K H p [x, y]) (h1 : At D R H x a) (h2 : At D S H y b) : At D (rT2 K R S) H (.ref p) (a, b) :=
  ⟨⟨p, x, y, rfl, hp, h1.1, h2.1⟩, fun ys => ⟨p, x, y, rfl, sqt_upd hD hp, h1.2 ys, h2.2 ys⟩⟩
theorem at_int {D : Addr} {H : Hp} {i : Int} : At D rInt H (.int i) i := ⟨rfl, fun _ => rfl⟩
theorem at_str {D : Addr} {H : Hp} {i : Str} : At D rStr H (.str i) i := ⟨rfl, fun _ => rfl⟩
theorem at_bl {D : Addr} {H : Hp} {i : Bool} : At D rBl H (.bl i) i := ⟨rfl, fun _ => rfl⟩
/-- a promise of RetO, within a comprehension -/
theorem retO_at {α : Type} {H0 H1 : Hp} {D : Addr} {R : DR α} {l : List V} {o : Option (List α)} {Q : VK} (b : Rob R) (hD : H1 D = some (.lst l)) (h0 : Ex H0 H1) (q : ∀ v H2, Ex H1 H2 → At D (rOpt (rNew H0 R)) H2 v o → Q v H2) : RetO R o H1 Q := by
  cases o with
  | none => exact fun H' e => q .non H' e at_non
  | some c => exact fun p H' xs hp e h' hl => q (.ref p) H' e (at_newl b hp hD e h0 h' hl)
/-! ### the shortest of the chains -/
def encCand (p : Int × List Lit) : PyData := .tuple [.int p.1, .list (p.2.map encLit)]
def rCand (K : PySem.W.Frag) (H0 : Hp) : DR (Int × List Lit) := rT2 K rInt (rNew H0 (rLit K))
theorem mCand {K : PySem.W.Frag} {H0 : Hp} : Mono (rCand K H0) := mT2 mInt (mNew mLit)
def candOf (o : Option (List Lit)) : Int × List Lit := (((o.getD []).length : Int), o.getD [])
def candsOf (cs : List (Option (List Lit))) : List (Int × List Lit) := (cs.filter (·.isSome)).map candOf
noncomputable def pickOf (cs : List (Option (List Lit))) : Option (List Lit) := ((sortedBy encCand (candsOf cs)).head?).map (·.2)
theorem dpAll_lits {K : PySem.W.Frag} {H : Hp} : ∀ {xs : List V} {ls : List Lit}, LR (rLit K) H xs ls → DpAll K H xs (ls.map encLit)
  | _, _, .nil => .nil
  | _, _, .cons r t => .cons (dp_lit r) (dpAll_lits t)
theorem dp_lits {K : PySem.W.Frag} {H : Hp} {v : V} {ls : List Lit} (h : rLst K (rLit K) H v ls) : Dp K H v (.list (ls.map encLit)) := by
  obtain ⟨p, xs, rfl, h1, h2⟩ := h
  exact .lst h1 (dpAll_lits h2)
theorem dp_cand {K : PySem.W.Frag} {H0 H : Hp} {v : V} {c : Int × List Lit} (h : rCand K H0 H v c) : Dp K H v (encCand c) := by
  obtain ⟨p, x, y, rfl, h1, h2, h3⟩ := h
  obtain rfl : x = .int c.1 := h2
  exact .tup h1 (.cons (.int _) (.cons (dp_lits h3.lst) .nil))
theorem alike_litsAll : ∀ xs ys : List Lit, PySem.W.alikeAll (xs.map encLit) (ys.map encLit) = true
  | [], _ => by simp [PySem.W.alikeAll]
  | _ :: _, [] => by simp [PySem.W.alikeAll]
  | x :: xs, y :: ys => by
    have h := alike_litsAll xs ys
    simp only [List.map_cons, PySem.W.alikeAll, h, Bool.and_true]
    simp [encLit, PySem.W.alike, PySem.W.alikeAll]
theorem depth_lits : ∀ xs : List Lit, PyData.depthAll (xs.map encLit) ≤ 2
  | [] => by simp [PyData.depthAll]
  | x :: xs => by
    have h := depth_lits xs
    have h2 : (encLit x).depth ≤ 2 := by simp [encLit, PyData.depth, PyData.depthAll]
    simp only [List.map_cons, PyData.depthAll]
    omega
theorem srt_cands (K : PySem.W.Frag) (H0 H : Hp) (cs : List (Int × List Lit)) : Srt K H (rCand K H0) encCand cs :=
  ⟨fun _ _ _ h => dp_cand h, PySem.W.AllAlike.of fun b b' => by simp [encCand, PySem.W.alike, PySem.W.alikeAll, alike_litsAll], PySem.W.Sortable.tuples fun b => ⟨_, _, rfl⟩, fun c _ => by
    have h := depth_lits c.2
    simp only [encCand, PyData.depth, PyData.depthAll]
    omega⟩
/-- None, or a list that is new since H0 -/
def RetQ {α : Type} (H0 H : Hp) (R : DR α) (o : Option (List α)) (Q : VK) : Prop := match o with
  | none => ∀ H', Ex H H' → Q .non H'
  | some c => ∀ v H', Ex H H' → rNew H0 R H' v c → Q v H'
theorem retQ_of {α : Type} {H0 H : Hp} {R : DR α} {o : Option (List α)} {Q : VK} (k : RetO R o H0 Q) (e : Ex H0 H) : RetQ H0 H R o Q := by
  cases o with
  | none => exact fun H' e' => k H' (e.trans e')
  | some c =>
    rintro v H' e' ⟨p, xs, rfl, h2, h3, h4⟩
    exact k p H' xs h2 (e.trans e') h3 h4
def rLen (K : PySem.W.Frag) : List V → Hp → VK → Prop := fun xs H Q => ∃ p ys, xs = [.ref p] ∧ (SqL K H p ys ∨ SqT K H p ys) ∧ Q (.int ys.length) H
def rNotN' : R2 := fun x y H Q => y = .non ∧ Q (.bl (!decide (x = .non))) H
section
variable {K : PySem.W.Frag} {H0 H : Hp} {σ : L2.St}
theorem ev_cands {ic j : Nat} {p : Addr} {xs : List V} {cs : List (Option (List Lit))} (hσ : σ[ic]? = some (some (.ref p))) (hp : SqL K H p xs) (hl : LR (rOpt (rNew H0 (rLit K))) H xs cs) (hz : cs.length ≤ 40000) (hw : ∀ x, wipe ((wipe σ [j]).set j (some x)) [j] = wipe σ [j]) (hj : ∀ x, ((wipe σ [j]).set j (some x))[j]? = some (some x)) :
    EvN (tCB (rSortD K (rCand K H0) encCand) (tCons (tLc (iList K (tVar ic)) (gName j) (tTest (tOp rNotN' (tVar j) (tC .non))) (tTup (tCons (tCB (rLen K) (tCons (tVar j) tNil)) (tCons (tVar j) tNil))) [j]) tNil)) σ H (rCand K H0) (sortedBy encCand (candsOf cs)) := by
  intro H1 e Q q
  have hl1 : LR (rOpt (rNew H0 (rLit K))) H1 xs cs := hl.mono (mOpt (mNew mLit)) e
  show (tLc (iList K (tVar ic)) (gName j) (tTest (tOp rNotN' (tVar j) (tC .non))) (tTup (tCons (tCB (rLen K) (tCons (tVar j) tNil)) (tCons (tVar j) tNil))) [j]) σ H1 (fun x H2 => rSortD K (rCand K H0) encCand [x] H2 Q)
  refine evn_go (evn_lcL (K := K) (σ := σ) (H := H1) (R := rAt H1 (rOpt (rNew H0 (rLit K)))) (S := rCand K H0) (as := cs) (fun o => o.isSome) candOf (evr_var (mLst mAtS) hσ ⟨p, xs, rfl, ex_l e hp, hl1.at⟩) hz mAtS mCand hw (fun x a H2 _ e2 hx => ?_) fun x a H2 D l _ e2 hD0 hD hx hs => ?_) fun p' H2 ys hp' e2 h2 hl2 => ?_
  · intro H3 e3 Q q
    refine ⟨_, hj x, rfl, _, rfl, ?_⟩
    cases a with
    | none =>
      obtain rfl : x = .non := hx
      exact q H3 (Ex.refl _)
    | some c =>
      obtain ⟨pc, ys, rfl, _⟩ := (show rNew H0 (rLit K) H1 x c from hx)
      exact q H3 (Ex.refl _)
  · cases a with
    | none => cases hs
    | some c =>
      have ha := at_list mLit bLit (show rNew H0 (rLit K) H1 x c from hx) e2 hD0 hD
      intro H3 e3 Q q
      obtain ⟨pc, zs, rfl, _, h3c, h3l⟩ := (mAt (mNew mLit) _ _ _ _ e3 ha).1
      refine ⟨_, hj _, pc, zs, rfl, .inl (sq_of h3c), _, hj _, by show 2 ≤ sizeLine; decide, fun pt hpt => ?_⟩
      refine q _ _ (Ex.new hpt) ?_
      have elen : zs.length = c.length := h3l.length
      have hD3 := (e3.trans (Ex.new (o := .tup [V.int (zs.length : Int), .ref pc]) hpt)) _ _ hD
      refine at_t2 hD3 (st_of upd_same) ?_ (mAt (mNew mLit) _ _ _ _ (e3.trans (Ex.new hpt)) ha)
      rw [elen]
      exact at_int
  · exact ⟨p', ys, _, rfl, sq_of h2, hl2, srt_cands K H0 H2 _, fun p3 H3 zs hp3 eH hl3 => by
      subst eH
      exact q p3 _ zs (fresh_back e2 hp3) (e2.trans (Ex.new hp3)) upd_same (hl3.mono mCand (Ex.new hp3))⟩
theorem ret_pick {D : Ends} {ci : Nat} {p : Addr} {ys : List V} {cs : List (Option (List Lit))} (hσ : σ[ci]? = some (some (.ref p))) (hp : H p = some (.lst ys)) (hl : LR (rCand K H0) H ys (sortedBy encCand (candsOf cs))) (k : RetQ H0 H (rLit K) (pickOf cs) D.rt) :
    tRet (tIf (tTest (tOp (rNeNil K) (tVar ci) (tLst tNil))) (tOp (rIxT K) (tOp (rIxL K) (tVar ci) (tC (.int 0))) (tC (.int 1))) (tC .non)) D σ H := by
  refine ⟨_, hσ, by show 0 ≤ sizeLine; decide, fun q hq => ⟨p, q, ys, rfl, rfl, sq_of ((Ex.new hq) _ _ hp), sq_of upd_same, ?_⟩⟩
  unfold pickOf at k
  generalize sortedBy encCand (candsOf cs) = sc at hl k
  cases hl with
  | nil => exact ⟨false, rfl, iteF (k _ (Ex.new hq))⟩
  | @cons x c zs ds r t =>
    refine ⟨true, rfl, iteT ?_⟩
    have e1 : Ex H (upd H q (.lst [])) := Ex.new hq
    obtain ⟨pt, x1, x2, rfl, h1, h2, h3⟩ := mCand _ _ _ _ e1 r
    exact ⟨_, hσ, _, _, _, _, rfl, rfl, sq_of (e1 _ _ hp), at0 rfl, _, _, _, _, rfl, rfl, h1, atI_nat (j := 1) rfl, k _ _ e1 h3⟩
end
end K19

/-! ## K19S -/
set_option Elab.async false
set_option linter.all false
set_option maxRecDepth 100000
set_option maxHeartbeats 4000000
namespace K19
open PySem PySem.Spec PyProof.Rows L2 Evl





theorem sc_ImplicationGraph_best_chain : FnScope ["self", "starts", "goal", "chains", "start", "candidates", "chain"] p_ImplicationGraph_best_chain (defScope s_ImplicationGraph_best_chain) := ⟨rfl, rfl, rfl, by decide +kernel, rfl, by decide +kernel, by decide +kernel⟩
theorem sc_graph_of : FnScope ["grammar"] p_graph_of (defScope s_graph_of) := ⟨rfl, rfl, rfl, by decide +kernel, rfl, by decide +kernel, by decide +kernel⟩
theorem sc_check_literals : FnScope ["grammar", "literals", "known", "literal", "is_pair"] p_check_literals (defScope s_check_literals) := ⟨rfl, rfl, rfl, by decide +kernel, rfl, by decide +kernel, by decide +kernel⟩
theorem sc_consequences : FnScope ["grammar", "literals"] p_consequences (defScope s_consequences) := ⟨rfl, rfl, rfl, by decide +kernel, rfl, by decide +kernel, by decide +kernel⟩
theorem sc_find_chain : FnScope ["grammar", "start", "goal"] p_find_chain (defScope s_find_chain) := ⟨rfl, rfl, rfl, by decide +kernel, rfl, by decide +kernel, by decide +kernel⟩
noncomputable def bestOf (S : Lit → List Lit) (ss : List Lit) (goal : Lit) : Option (List Lit) := pickOf (ss.map fun s => chainOf S s goal)
/-- a graph with its laws -/
structure GOk (P : Program) (w : World) (K : PySem.W.Frag) (U : List Lit) (S : Lit → List Lit) (H : Hp) (v : V) : Prop where
  gr : rGr P w K U S H v
  ok : Uok U S
  sy : SymE S
  ng : ∀ l ∈ U, neg l ∈ U
theorem GOk.mono {P : Program} {w : World} {K : PySem.W.Frag} {U : List Lit} {S : Lit → List Lit} {H H' : Hp} {v : V} (e : Ex H H') (h : GOk P w K U S H v) : GOk P w K U S H' v := ⟨h.gr.mono e, h.ok, h.sy, h.ng⟩
def spBest (P : Program) (w : World) (K : PySem.W.Frag) : Sp := fun vs H Q _ => ∃ vg va vb U S ss goal, vs = [vg, va, vb] ∧ GOk P w K U S H vg ∧ goal ∈ U ∧ (∀ s ∈ ss, s ∈ U) ∧ ss.length ≤ 40 ∧ rLst K (rLit K) H va ss ∧ rLit K H vb goal ∧ RetO (rLit K) (bestOf S ss goal) H Q
/-- the graph of a grammar -/
noncomputable abbrev gS (g : Gram) : Lit → List Lit := succOf g.2.2
abbrev gU (g : Gram) : List Lit := litsN (names g)
def RetG (P : Program) (w : World) (K : PySem.W.Frag) (U : List Lit) (S : Lit → List Lit) (H : Hp) (Q : VK) : Prop := ∀ v H', Ex H H' → GOk P w K U S H' v → Q v H'
def spGraphOf (P : Program) (w : World) (K : PySem.W.Frag) : Sp := fun vs H Q _ => ∃ v g, vs = [v] ∧ rGram K H v g ∧ Good g ∧ RetG P w K (gU g) (gS g) H Q
theorem gok_of {P : Program} {w : World} {K : PySem.W.Frag} {H : Hp} {v : V} {ns : List Str} {cs : List Clause} (h : rGr P w K (litsN ns) (succOf cs) H v) (hok : ∀ c ∈ cs, ClOk ns c) (hn : ns.length ≤ 6) (hc : cs.length ≤ 6) : GOk P w K (litsN ns) (succOf cs) H v :=
  ⟨h, uok_succ hok hn hc, sym_succ cs, fun l hl => neg_in hl⟩
def spCheckLits (K : PySem.W.Frag) : Sp := fun vs H Q _ => ∃ v g u ls, vs = [v, u] ∧ rGram K H v g ∧ g.1.length ≤ 40 ∧ rLst K (rLit K) H u ls ∧ (∀ l ∈ ls, l.1 ∈ names g) ∧ ∀ H', Ex H H' → Q .non H'
def spConsequences (K : PySem.W.Frag) : Sp := fun vs H Q _ => ∃ v g u l, vs = [v, u] ∧ rGram K H v g ∧ Good g ∧ rLst K (rLit K) H u [l] ∧ l.1 ∈ names g ∧ RetN (rLit K) (sortLits (reachOf (gS g) l)) H Q
def spFindChain (K : PySem.W.Frag) : Sp := fun vs H Q _ => ∃ v g u u2 l m, vs = [v, u, u2] ∧ rGram K H v g ∧ Good g ∧ rLit K H u l ∧ rLit K H u2 m ∧ l.1 ∈ names g ∧ m.1 ∈ names g ∧ RetO (rLit K) (chainOf (gS g) l m) H Q
theorem names_len {g : Gram} : (names g).length = g.1.length := by unfold names; simp
section
variable {P : Program} {w : World} {K : PySem.W.Frag} {mg : Str → Option Value} {base : Heap}
theorem ok_ImplicationGraph_best_chain (T : Txt K mg) : Met P w K mg base CX0 4 (He.ga K "ImplicationGraph") "best_chain" (spBest P w K) := by
  refine met0 (N := ["self", "starts", "goal", "chains", "start", "candidates", "chain"]) T.c_ImplicationGraph T.m_ImplicationGraph_best_chain T.D_ImplicationGraph_best_chain sc_ImplicationGraph_best_chain (fun vs H Q E h => ?_) fun cdv A outer s H vs Q E hr h => ?_
  · obtain ⟨_, _, _, _, _, _, _, rfl, _⟩ := h; rfl
  · obtain ⟨vg, va, vb, U, S, ss, goal, rfl, hg, hgo, hss, hsl, ⟨pa, xs, rfl, hpa, hla⟩, rgo, k⟩ := h
    obtain ⟨g, dxg, dg, kg, rfl, hgi, _⟩ := id hg.gr
    refine ⟨_, (pss_cons (ps_setLc (i := 3) (own := [("start", 4)]) (g := gName 4) (tt := tYes) rfl sc_ImplicationGraph_best_chain.nd rfl rfl (sw_true rfl rfl rfl (by decide +kernel)) (pi_list (pv 1)) (blkOk_by (N := ["self", "starts", "goal", "chains", "start", "candidates", "chain"]) (sc := defScope s_ImplicationGraph_best_chain) (by decide +kernel)) (fun _ _ _ _ _ => (pg_name (i := 4) sc_ImplicationGraph_best_chain.nd rfl (Or.inl rfl))) (fun _ _ _ _ _ => pts_nil) (fun _ _ _ _ _ => (pe_mt (ok_ImplicationGraph_shortest_chain (P := P) (w := w) (base := base) T) hr (by decide) pass0 (pv 0) (pa_cons (pv 4) (pa_cons (pv 2) pa_nil)))))
      (pss_cons (ps_set (i := 5) sc_ImplicationGraph_best_chain.nd rfl (Or.inl rfl) (pe_callB (cr_sortD' K (rCand K H) encCand hr.units) rfl T.f_sorted bt_sorted (pa_cons (pe_lc (own := [("chain", 6)]) (g := gName 6) rfl sc_ImplicationGraph_best_chain.nd (pi_list (pv 3)) (blkOk_by (N := ["self", "starts", "goal", "chains", "start", "candidates", "chain"]) (sc := defScope s_ImplicationGraph_best_chain) (by decide +kernel)) (fun _ _ _ _ _ => (pg_name (i := 6) sc_ImplicationGraph_best_chain.nd rfl (Or.inl rfl))) (fun _ _ _ _ _ => (pts_one (pt_cmpR op_notN (pv 6) pe_non (nomark _)))) (fun _ _ _ _ _ => (pe_tup (pa_cons (pe_callB (lenSq K) rfl T.f_len bt_len (pa_cons (pv 6) pa_nil)) (pa_cons (pv 6) pa_nil))))) pa_nil)))
      (pss_one (ps_ret (pe_ifExp (pt_cmpR (op_neNil K hr.units) (pv 5) (pe_lst pa_nil) (nomark _)) (pe_ix (ixT K) (pe_ix (ixL K) (pv 5) pe_int (fun _ _ => rfl)) pe_int (fun _ _ => rfl)) pe_non))))), ?_⟩
    refine q_asgN (R := rOpt (rNew H (rLit K))) (evn_lcL1 (K := K) (R := rAt H (rLit K)) (S := rOpt (rNew H (rLit K))) (as := ss) (fun s => chainOf S s goal) (evr_var (mLst mAtS) rfl ⟨pa, xs, rfl, hpa, hla.at⟩) (by omega) mAtS (mOpt (mNew mLit)) (fun _ => rfl) fun x a H1 D l ha e1 hD0 hD hx => ?_) fun pc H1 ys hpc e1 h1 hl1 => ?_
    · intro H2 e2 Q q
      have hx2 : rLit K H2 x a := mLit _ _ _ _ (e1.trans e2) hx
      have e02 := e1.trans e2
      refine ⟨_, rfl, g, dxg, _, rfl, e02 _ _ hgi, rfl, _, rfl, _, rfl, _, _, _, U, S, a, goal, rfl, hg.gr.mono e02, hg.ok, hg.sy, hg.ng _ hgo, hss a ha, hx2, mLit _ _ _ _ e02 rgo, retO_at bLit (e2 _ _ hD) e02 q⟩
    · have hz : (ss.map fun s => chainOf S s goal).length ≤ 40000 := by
        rw [List.length_map]
        exact Nat.le_trans hsl (by decide)
      refine q_asgN (R := rCand K H) (ev_cands (H0 := H) (ic := 3) (j := 6) (cs := ss.map fun s => chainOf S s goal) rfl (sq_of h1) hl1 hz (fun _ => rfl) (fun _ => rfl)) fun p2 H2 zs hp2 e2 h2 hl2 => ?_
      exact ret_pick (H0 := H) (cs := ss.map fun s => chainOf S s goal) rfl h2 hl2 (retQ_of k (e1.trans e2))
theorem ok_graph_of (T : Txt K mg) : Cal P w K mg base CX0 4 "graph_of" (spGraphOf P w K) := by
  refine cal0 (N := ["grammar"]) T.D_graph_of T.g_graph_of sc_graph_of (fun vs H Q E h => ?_) fun cdv A outer s H vs Q E hr h => ?_
  · obtain ⟨_, _, rfl, _⟩ := h; rfl
  · obtain ⟨v, g, rfl, hg, G, k⟩ := h
    refine ⟨_, (pss_one (ps_ret (pe_mk (mk_ImplicationGraph (P := P) (w := w) (base := base) T) hr (by decide) rfl pass0 (pa_cons (pe_c (ok_names_of (P := P) (w := w) (base := base) T) hr (by decide) rfl pass0 (pa_cons (pv 0) pa_nil)) (pa_cons (pe_ix (ixT K) (pv 0) pe_int (fun _ _ => rfl)) pa_nil))))), ?_⟩
    have G2 := G.n2
    refine ⟨_, rfl, _, g, rfl, hg, by omega, fun p H1 ys hp e1 h1 hl1 => ?_⟩
    obtain ⟨pg, x, y, z, rfl, hpg, hx, hy, hz⟩ := mGram _ _ _ _ e1 hg
    refine ⟨_, rfl, _, _, _, _, rfl, rfl, hpg, atI_nat (j := 2) rfl, fun s dx hs hdx hne => ?_⟩
    have e2 : Ex H1 (upd H1 dx (.own s)) := Ex.new hdx
    have hs2 : (upd H1 dx (.own s)) s = none := by rw [upd_ne (Ne.symm hne)]; exact hs
    have e3 := e2.trans (Ex.new (o := .ins (He.ga K "ImplicationGraph") dx []) hs2)
    refine ⟨s, dx, _, _, names g, g.2.2, rfl, upd_same, mLst mStr _ _ _ _ e3 ⟨p, ys, rfl, sq_of h1, hl1⟩, mTpl mCl _ _ _ _ e3 hz, G.names, by rw [names_len]; omega, G.c6, G.cls, fun H' eb hgr => ⟨rfl, ?_⟩⟩
    refine k _ H' (fun a o h => ?_) (gok_of hgr G.cls (by rw [names_len]; omega) G.c6)
    have h1a := e1 _ _ h
    have nas : a ≠ s := fun z => by rw [z, hs] at h1a; cases h1a
    exact eb a o nas (e3 _ _ h1a)
end
end K19

/-! ## K19T -/
set_option Elab.async false
set_option linter.all false
set_option maxRecDepth 100000
set_option maxHeartbeats 4000000
namespace K19
open PySem PySem.Spec PyProof.Rows L2 Evl




theorem sc_find_contradiction : FnScope ["grammar", "graph", "name", "there", "back"] p_find_contradiction (defScope s_find_contradiction) := ⟨rfl, rfl, rfl, by decide +kernel, rfl, by decide +kernel, by decide +kernel⟩
/-- None or a list, as asked -/
theorem retO_any {α : Type} {R : DR α} {o : Option (List α)} {H : Hp} {Q : VK} (h : ∀ v H', Ex H H' → (decide (v = V.non) = !o.isSome) ∧ (o.isSome = true → ∃ p, v = .ref p) → Q v H') : RetO R o H Q := by
  cases o with
  | none => exact fun H' e => h .non H' e ⟨rfl, fun z => by cases z⟩
  | some c => exact fun p H' xs _ e _ _ => h (.ref p) H' e ⟨rfl, fun _ => ⟨p, rfl⟩⟩
/-- a contradiction is found -/
noncomputable def contraB (g : Gram) (n : Str) : Bool := (chainOf (gS g) (n, false) (n, true)).isSome && (chainOf (gS g) (n, true) (n, false)).isSome
noncomputable def satB (g : Gram) : Bool := !(names g).any (contraB g)
/-- None, or something else -/
def spFindContra (K : PySem.W.Frag) : Sp := fun vs H Q _ => ∃ v g, vs = [v] ∧ rGram K H v g ∧ Good g ∧ (satB g = true → ∀ H', Ex H H' → Q .non H') ∧ (satB g = false → ∀ p H', Ex H H' → Q (.ref p) H')
section
variable {P : Program} {w : World} {K : PySem.W.Frag} {mg : Str → Option Value} {base : Heap}
theorem ok_check_literals (T : Txt K mg) : Cal P w K mg base CX0 2 "check_literals" (spCheckLits K) := by
  refine cal0 (N := ["grammar", "literals", "known", "literal", "is_pair"]) T.D_check_literals T.g_check_literals sc_check_literals (fun vs H Q E h => ?_) fun cdv A outer s H vs Q E hr h => ?_
  · obtain ⟨_, _, _, _, rfl, _⟩ := h; rfl
  · obtain ⟨v, g, u, ls, rfl, hg, hl, ⟨pn, xs, rfl, hn, hxl⟩, hk, k⟩ := h
    refine ⟨_, (pss_cons (ps_set (i := 2) sc_check_literals.nd rfl (Or.inl rfl) (pe_c (ok_names_of (P := P) (w := w) (base := base) T) hr (by decide) rfl pass0 (pa_cons (pv 0) pa_nil)))
      (pss_one (ps_for PassesOwn.never rfl (pi_list (pv 1)) (pg_name (i := 3) sc_check_literals.nd rfl (Or.inl rfl)) (pss_cons (ps_set (i := 4) sc_check_literals.nd rfl (Or.inl rfl) (pe_and (pe_isiK K T.f_isinstance T.f_tuple bt_tuple (pv 3)) (pe_and (pe_cmpR op_eq (pe_callB (lenSq K) rfl T.f_len bt_len (pa_cons (pv 3) pa_nil)) pe_int (nomark _)) (pe_one (pe_isiK K T.f_isinstance T.f_bool bt_bool (pe_ix (ixT K) (pv 3) pe_int (fun _ _ => rfl)))))))
      (pss_one (ps_if (PW.pt (pw_or (pt_not (pt_val (pv 4))) (pw_or1 (pt_cmpR (notInSq K) (pe_ix (ixT K) (pv 3) pe_int (fun _ _ => rfl)) (pv 2) rfl)))) pss_never pss_nil)))))), ?_⟩
    refine ⟨_, rfl, _, g, rfl, hg, hl, fun p H1 ys hp e1 h1 hyl => ?_⟩
    have ey := lr_strs hyl
    subst ey
    refine ⟨_, rfl, pn, rfl, ⟨xs, ex_l e1 hn⟩, for_list (K := K) (a := pn) (xs := xs) (fun (i : Nat) (σ' : L2.St) (H' : Hp) => ∃ o0 o1 o3 o4, σ' = [o0, o1, some (.ref p), o3, o4] ∧ Ex H1 H') ⟨_, _, _, _, rfl, Ex.refl _⟩ (fun i σ' H' _ ⟨_, _, _, _, _, e⟩ => ex_l (e1.trans e) hn) ?_ ?_⟩
    · rintro i x σ' H2 hi ⟨o0, o1, o3, o4, rfl, e2⟩
      obtain ⟨l, hl, rl⟩ := (hxl.mono mLit (e1.trans e2)).getV hi
      have hm := hk l (List.mem_of_getElem? hl)
      obtain ⟨a, rfl, ha⟩ := litB rl
      refine ⟨_, rfl, _, _, _, _, rfl, tyT ha, (by decide +kernel : kitB "tuple" "tuple" = some true), true, rfl, iteT ?_⟩
      refine ⟨_, rfl, _, _, rfl, .inr ha, rfl, true, rfl, iteT ?_⟩
      refine ⟨_, rfl, _, _, _, _, rfl, rfl, ha, atI_nat (j := 1) rfl, _, _, _, _, rfl, .base (.bl _), (by decide +kernel : kitB "bool" "bool" = some true), ?_⟩
      refine ⟨_, rfl, true, rfl, iteF ?_⟩
      refine ⟨_, rfl, _, _, _, _, rfl, rfl, ha, at0 rfl, _, rfl, _, _, rfl, .inl (sq_of (e2 _ _ h1)), rfl, flat_strs _, false, ?_, iteF ?_⟩
      · show V.bl (!inV (.str l.1) ((names g).map V.str)) = V.bl false
        rw [inV_strs, decide_eq_true hm]
        rfl
      · exact ⟨_, _, _, _, rfl, e2⟩
    · rintro σ' H2 ⟨_, _, _, _, rfl, e2⟩
      exact k H2 (e1.trans e2)
theorem ok_consequences (T : Txt K mg) : Cal P w K mg base CX0 6 "consequences" (spConsequences K) := by
  refine cal0 (N := ["grammar", "literals"]) T.D_consequences T.g_consequences sc_consequences (fun vs H Q E h => ?_) fun cdv A outer s H vs Q E hr h => ?_
  · obtain ⟨_, _, _, _, rfl, _⟩ := h; rfl
  · obtain ⟨v, g, u, l, rfl, hg, G, hu, hl, k⟩ := h
    refine ⟨_, (pss_cons (ps_expr (pe_c (ok_check_grammar (P := P) (w := w) (base := base) T) hr (by decide) rfl pass0 (pa_cons (pv 0) pa_nil)))
      (pss_cons (ps_expr (pe_c (ok_check_literals (P := P) (w := w) (base := base) T) hr (by decide) rfl pass0 (pa_cons (pv 0) (pa_cons (pv 1) pa_nil))))
      (pss_one (ps_ret (pe_callB (cr_sortL' P w K rfl hr.units) rfl T.f_sorted bt_sorted (pa_cons (pe_mt (ok_ImplicationGraph_reachable (P := P) (w := w) (base := base) T) hr (by decide) pass0 (pe_c (ok_graph_of (P := P) (w := w) (base := base) T) hr (by decide) rfl pass0 (pa_cons (pv 0) pa_nil)) (pa_cons (pv 1) pa_nil)) pa_nil)))))), ?_⟩
    have G2 := G.n2
    refine ⟨_, rfl, _, g, rfl, hg, G, fun H1 e1 => ?_⟩
    refine ⟨_, rfl, _, rfl, _, g, _, [l], rfl, mGram _ _ _ _ e1 hg, by omega, mLst mLit _ _ _ _ e1 hu, fun x hx => ?_, fun H2 e2 => ?_⟩
    · simp at hx
      subst hx
      exact hl
    refine ⟨_, rfl, _, g, rfl, mGram _ _ _ _ (e1.trans e2) hg, G, fun gv H3 e3 hgr => ?_⟩
    obtain ⟨gg, dx, dg, kg, rfl, hgi, _⟩ := id hgr.gr
    have e03 := (e1.trans e2).trans e3
    refine ⟨gg, dx, _, rfl, hgi, rfl, _, rfl, _, _, _, _, l, rfl, hgr.gr, hgr.ok, mem_litsN.mpr hl, mLst mLit _ _ _ _ e03 hu, fun d H4 kvs hd e4 h4 h4k hke => ?_⟩
    refine ⟨d, kvs, rfl, lok_of h4 h4k, fun p H5 ys hp eH hly => ?_⟩
    subst eH
    rw [hke] at hly
    exact k p _ ys (fresh_back (e03.trans e4) hp) ((e03.trans e4).trans (Ex.new hp)) upd_same (hly.mono mLit (Ex.new hp))
theorem ok_find_chain (T : Txt K mg) : Cal P w K mg base CX0 6 "find_chain" (spFindChain K) := by
  refine cal0 (N := ["grammar", "start", "goal"]) T.D_find_chain T.g_find_chain sc_find_chain (fun vs H Q E h => ?_) fun cdv A outer s H vs Q E hr h => ?_
  · obtain ⟨_, _, _, _, _, _, rfl, _⟩ := h; rfl
  · obtain ⟨v, g, u, u2, l, m, rfl, hg, G, hu, hu2, hl, hm, k⟩ := h
    refine ⟨_, (pss_cons (ps_expr (pe_c (ok_check_grammar (P := P) (w := w) (base := base) T) hr (by decide) rfl pass0 (pa_cons (pv 0) pa_nil)))
      (pss_cons (ps_expr (pe_c (ok_check_literals (P := P) (w := w) (base := base) T) hr (by decide) rfl pass0 (pa_cons (pv 0) (pa_cons (pe_lst (pa_cons (pv 1) (pa_cons (pv 2) pa_nil))) pa_nil))))
      (pss_one (ps_ret (pe_mt (ok_ImplicationGraph_shortest_chain (P := P) (w := w) (base := base) T) hr (by decide) pass0 (pe_c (ok_graph_of (P := P) (w := w) (base := base) T) hr (by decide) rfl pass0 (pa_cons (pv 0) pa_nil)) (pa_cons (pv 1) (pa_cons (pv 2) pa_nil))))))), ?_⟩
    have G2 := G.n2
    refine ⟨_, rfl, _, g, rfl, hg, G, fun H1 e1 => ?_⟩
    refine ⟨_, rfl, _, rfl, _, rfl, by show 2 ≤ sizeLine; decide, fun p hp => ?_⟩
    have e2 := e1.trans (Ex.new (o := .lst [u, u2]) hp)
    refine ⟨_, g, _, [l, m], rfl, mGram _ _ _ _ e2 hg, by omega, ⟨p, _, rfl, sq_of upd_same, .cons (mLit _ _ _ _ e2 hu) (.cons (mLit _ _ _ _ e2 hu2) .nil)⟩, fun x hx => ?_, fun H2 e3 => ?_⟩
    · simp at hx
      rcases hx with rfl | rfl
      · exact hl
      · exact hm
    have e03 := e2.trans e3
    refine ⟨_, rfl, _, g, rfl, mGram _ _ _ _ e03 hg, G, fun gv H3 e4 hgr => ?_⟩
    obtain ⟨gg, dx, dg, kg, rfl, hgi, _⟩ := id hgr.gr
    have e05 := e03.trans e4
    refine ⟨gg, dx, _, rfl, hgi, rfl, _, rfl, _, rfl, _, _, _, _, _, l, m, rfl, hgr.gr, hgr.ok, hgr.sy, hgr.ng _ (mem_litsN.mpr hm), mem_litsN.mpr hl, mLit _ _ _ _ e05 hu, mLit _ _ _ _ e05 hu2, ?_⟩
    cases hc : chainOf (gS g) l m with
    | none =>
      rw [hc] at k
      exact fun H' e => k H' (e05.trans e)
    | some c =>
      rw [hc] at k
      exact fun p' H' xs hp' e h' hl' => k p' H' xs (fresh_back e05 hp') (e05.trans e) h' hl'
theorem ok_find_contradiction (T : Txt K mg) : Cal P w K mg base CX0 5 "find_contradiction" (spFindContra K) := by
  refine cal0 (N := ["grammar", "graph", "name", "there", "back"]) T.D_find_contradiction T.g_find_contradiction sc_find_contradiction (fun vs H Q E h => ?_) fun cdv A outer s H vs Q E hr h => ?_
  · obtain ⟨_, _, rfl, _⟩ := h; rfl
  · obtain ⟨v, g, rfl, hg, G, ks, kn⟩ := h
    refine ⟨_, (pss_cons (ps_set (i := 1) sc_find_contradiction.nd rfl (Or.inl rfl) (pe_c (ok_graph_of (P := P) (w := w) (base := base) T) hr (by decide) rfl pass0 (pa_cons (pv 0) pa_nil)))
      (pss_cons (ps_for PassesOwn.never rfl (pi_list (pe_c (ok_names_of (P := P) (w := w) (base := base) T) hr (by decide) rfl pass0 (pa_cons (pv 0) pa_nil))) (pg_name (i := 2) sc_find_contradiction.nd rfl (Or.inl rfl)) (pss_cons (ps_set (i := 3) sc_find_contradiction.nd rfl (Or.inl rfl) (pe_mt (ok_ImplicationGraph_shortest_chain (P := P) (w := w) (base := base) T) hr (by decide) pass0 (pv 1) (pa_cons (pe_tup (pa_cons (pv 2) (pa_cons pe_bl pa_nil))) (pa_cons (pe_tup (pa_cons (pv 2) (pa_cons pe_bl pa_nil))) pa_nil))))
      (pss_cons (ps_set (i := 4) sc_find_contradiction.nd rfl (Or.inl rfl) (pe_mt (ok_ImplicationGraph_shortest_chain (P := P) (w := w) (base := base) T) hr (by decide) pass0 (pv 1) (pa_cons (pe_tup (pa_cons (pv 2) (pa_cons pe_bl pa_nil))) (pa_cons (pe_tup (pa_cons (pv 2) (pa_cons pe_bl pa_nil))) pa_nil))))
      (pss_one (ps_if (PW.pt (pw_and (pt_cmpR op_notN (pv 3) pe_non (nomark _)) (pw_and1 (pt_cmpR op_notN (pv 4) pe_non (nomark _))))) (pss_one (ps_ret (pe_tup (pa_cons (pv 3) (pa_cons (pv 4) pa_nil))))) pss_nil)))))
      (pss_one (ps_ret pe_non)))), ?_⟩
    have G2 := G.n2
    refine ⟨_, rfl, _, g, rfl, hg, G, fun gv H1 e1 hgr => ?_⟩
    obtain ⟨gg, dx, dg, kg, rfl, hgi, _⟩ := id hgr.gr
    refine ⟨_, rfl, _, g, rfl, mGram _ _ _ _ e1 hg, by omega, fun p H2 ys hp e2 h2 hyl => ?_⟩
    have e02 := e1.trans e2
    refine ⟨p, rfl, ⟨ys, sq_of h2⟩, for_list (K := K) (a := p) (xs := ys) (fun (i : Nat) (σ' : L2.St) (H' : Hp) => ∃ o2 o3 o4, σ' = [some v, some (.ref gg), o2, o3, o4] ∧ Ex H2 H' ∧ ∀ n ∈ (names g).take i, contraB g n = false) ⟨_, _, _, rfl, Ex.refl _, fun n h => by simp at h⟩ (fun i σ' H' _ ⟨_, _, _, _, e, _⟩ => sq_of (e _ _ h2)) ?_ ?_⟩
    · rintro i x σ' H3 hi ⟨o2, o3, o4, rfl, e3, hall⟩
      obtain ⟨n, hn, rx⟩ := hyl.getV hi
      obtain rfl : x = .str n := rx
      have hm : n ∈ names g := List.mem_of_getElem? hn
      have tk : (names g).take (i + 1) = (names g).take i ++ [n] := by rw [List.take_succ, hn]; rfl
      have mF : ((n, false) : Lit) ∈ gU g := mem_litsN.mpr hm
      have mT : ((n, true) : Lit) ∈ gU g := mem_litsN.mpr hm
      have e13 := e2.trans e3
      -- there
      refine ⟨_, rfl, gg, dx, _, rfl, e13 _ _ hgi, rfl, _, rfl, by show 2 ≤ sizeLine; decide, fun p1 hp1 => ⟨_, rfl, by show 2 ≤ sizeLine; decide, fun p2 hp2 => ?_⟩⟩
      have e4 := Ex.new (o := .tup [V.str n, .bl false]) hp1
      have e5 := Ex.new (o := .tup [V.str n, .bl true]) hp2
      have e15 := (e13.trans e4).trans e5
      have e35 := (e3.trans e4).trans e5
      have g5 := hgr.mono e15
      refine ⟨_, _, _, _, _, (n, false), (n, true), rfl, g5.gr, g5.ok, g5.sy, g5.ng _ mT, mF, ⟨p1, _, _, rfl, st_of (e5 _ _ upd_same), rfl, rfl⟩, ⟨p2, _, _, rfl, st_of upd_same, rfl, rfl⟩, ?_⟩
      refine retO_any fun u H6 e6 hu => ?_
      have e16 := e15.trans e6
      have g6 := hgr.mono e16
      refine ⟨_, rfl, gg, dx, _, rfl, e16 _ _ hgi, rfl, _, rfl, by show 2 ≤ sizeLine; decide, fun q1 hq1 => ⟨_, rfl, by show 2 ≤ sizeLine; decide, fun q2 hq2 => ?_⟩⟩
      have e7 := Ex.new (o := .tup [V.str n, .bl true]) hq1
      have e8 := Ex.new (o := .tup [V.str n, .bl false]) hq2
      have e18 := (e16.trans e7).trans e8
      have g8 := hgr.mono e18
      refine ⟨_, _, _, _, _, (n, true), (n, false), rfl, g8.gr, g8.ok, g8.sy, g8.ng _ mF, mT, ⟨q1, _, _, rfl, st_of (e8 _ _ upd_same), rfl, rfl⟩, ⟨q2, _, _, rfl, st_of upd_same, rfl, rfl⟩, ?_⟩
      refine retO_any fun z H9 e9 hz => ?_
      have e29 := (((e35.trans e6).trans e7).trans e8).trans e9
      have more : contraB g n = false → ∀ o ∈ (names g).take (i + 1), contraB g o = false := fun h o ho => by
        rw [tk] at ho
        rcases List.mem_append.mp ho with ho | ho
        · exact hall o ho
        · simp at ho
          subst ho
          exact h
      refine ⟨_, rfl, rfl, ?_⟩
      rw [hu.1]
      cases h1 : (chainOf (gS g) (n, false) (n, true)).isSome with
      | false => exact ⟨false, rfl, iteF ⟨_, _, _, rfl, e29, more (by unfold contraB; rw [h1]; rfl)⟩⟩
      | true =>
        refine ⟨true, rfl, iteT ⟨_, rfl, rfl, ?_⟩⟩
        rw [hz.1]
        cases h2 : (chainOf (gS g) (n, true) (n, false)).isSome with
        | false => exact ⟨false, rfl, iteF ⟨_, _, _, rfl, e29, more (by unfold contraB; rw [h1, h2]; rfl)⟩⟩
        | true =>
          refine ⟨true, rfl, iteT ⟨_, rfl, _, rfl, by show 2 ≤ sizeLine; decide, fun pt hpt => ?_⟩⟩
          refine kn ?_ pt _ ((e02.trans e29).trans (Ex.new hpt))
          unfold satB
          rw [show (names g).any (contraB g) = true from by
            rw [List.any_eq_true]
            exact ⟨n, hm, by unfold contraB; rw [h1, h2]; rfl⟩]
          rfl
    · rintro σ' H3 ⟨o2, o3, o4, rfl, e3, hall⟩
      refine ks ?_ H3 (e02.trans e3)
      have hl : ys.length = (names g).length := hyl.length
      rw [hl, List.take_length] at hall
      unfold satB
      rw [show (names g).any (contraB g) = false from by
        rw [List.any_eq_false]
        intro n hn
        rw [hall n hn]
        simp]
      rfl
end
end K19

/-! ## K19U -/
set_option Elab.async false
set_option linter.all false
set_option maxRecDepth 100000
set_option maxHeartbeats 4000000
namespace K19
open PySem PySem.Spec PyProof.Rows L2 Evl



theorem sc_check_satisfiable : FnScope ["grammar"] p_check_satisfiable (defScope s_check_satisfiable) := ⟨rfl, rfl, rfl, by decide +kernel, rfl, by decide +kernel, by decide +kernel⟩
theorem sc_always_required : FnScope ["grammar", "graph", "name"] p_always_required (defScope s_always_required) := ⟨rfl, rfl, rfl, by decide +kernel, rfl, by decide +kernel, by decide +kernel⟩
theorem sc_never_possible : FnScope ["grammar", "graph", "name"] p_never_possible (defScope s_never_possible) := ⟨rfl, rfl, rfl, by decide +kernel, rfl, by decide +kernel, by decide +kernel⟩
theorem sc_implies_literals : FnScope ["graph", "left", "right", "start", "goal"] p_implies_literals (defScope s_implies_literals) := ⟨rfl, rfl, rfl, by decide +kernel, rfl, by decide +kernel, by decide +kernel⟩
theorem sc_are_equivalent : FnScope ["graph", "first", "second"] p_are_equivalent (defScope s_are_equivalent) := ⟨rfl, rfl, rfl, by decide +kernel, rfl, by decide +kernel, by decide +kernel⟩
/-- no set of options is accepted: Unsatisfiable is raised -/
def NoSat (K : PySem.W.Frag) (g : Gram) (H : Hp) (E : XK) : Prop := satB g = false → ∀ H', Ex H H' → E (.ref (He.ga K "Unsatisfiable")) none H'
theorem NoSat.mono {K : PySem.W.Frag} {g : Gram} {H H' : Hp} {E : XK} (h : NoSat K g H E) (e : Ex H H') : NoSat K g H' E := fun s H2 e2 => h s H2 (e.trans e2)
def spCheckSat (K : PySem.W.Frag) : Sp := fun vs H Q E => ∃ v g, vs = [v] ∧ rGram K H v g ∧ Good g ∧ (satB g = true → ∀ H', Ex H H' → Q .non H') ∧ NoSat K g H E
noncomputable def alwaysOf (g : Gram) : List Str := (names g).filter fun n => decide (((n, true) : Lit) ∈ reachOf (gS g) (n, false))
noncomputable def neverOf (g : Gram) : List Str := (names g).filter fun n => decide (((n, false) : Lit) ∈ reachOf (gS g) (n, true))
def spAlways (K : PySem.W.Frag) : Sp := fun vs H Q E => ∃ v g, vs = [v] ∧ rGram K H v g ∧ Good g ∧ (satB g = true → RetN rStr (alwaysOf g) H Q) ∧ NoSat K g H E
def spNever (K : PySem.W.Frag) : Sp := fun vs H Q E => ∃ v g, vs = [v] ∧ rGram K H v g ∧ Good g ∧ (satB g = true → RetN rStr (neverOf g) H Q) ∧ NoSat K g H E
def impB (S : Lit → List Lit) (l r : Lit) : Bool := [(neg l, r), (neg l, l), (neg r, r)].any fun p => decide (p.2 ∈ reachOf S p.1)
def eqvB (S : Lit → List Lit) (a b : Str) : Bool := impB S (a, false) (b, true) && impB S (a, true) (b, false)
def spImplies (P : Program) (w : World) (K : PySem.W.Frag) : Sp := fun vs H Q _ => ∃ vg va vb U S l r, vs = [vg, va, vb] ∧ GOk P w K U S H vg ∧ rLit K H va l ∧ rLit K H vb r ∧ l ∈ U ∧ r ∈ U ∧ ∀ H', Ex H H' → Q (.bl (impB S l r)) H'
def spEquiv (P : Program) (w : World) (K : PySem.W.Frag) : Sp := fun vs H Q _ => ∃ vg a b U S, vs = [vg, .str a, .str b] ∧ GOk P w K U S H vg ∧ (∀ t, (a, t) ∈ U ∧ (b, t) ∈ U) ∧ ∀ H', Ex H H' → Q (.bl (eqvB S a b)) H'
section
variable {P : Program} {w : World} {K : PySem.W.Frag} {mg : Str → Option Value} {base : Heap}
theorem ok_check_satisfiable (T : Txt K mg) : Cal P w K mg base (LX P w) 6 "check_satisfiable" (spCheckSat K) := by
  refine calX (N := ["grammar"]) T.D_check_satisfiable T.g_check_satisfiable sc_check_satisfiable (fun vs H Q E h => ?_) fun cdv A outer s H vs Q E hr h => ?_
  · obtain ⟨_, _, rfl, _⟩ := h; rfl
  · obtain ⟨v, g, rfl, hg, G, k, kn⟩ := h
    refine ⟨_, pss_one (ps_if (pt_cmpR op_notN (pe_c (ok_find_contradiction (P := P) (w := w) (base := base) T) hr (by decide) rfl pass0 (pa_cons (pv 0) pa_nil)) pe_non (nomark _)) (pss_one (ps_raise rfl (takes_of rfl rfl rfl rfl) (pmk_own F.excBase_ValueError T.x_Unsatisfiable.1 T.g_Unsatisfiable T.x_Unsatisfiable.2.1 (raises_own T.x_Unsatisfiable.2.2.1 T.x_Unsatisfiable.2.2.2) rfl))) pss_nil), ?_⟩
    refine ⟨_, rfl, _, g, rfl, hg, G, fun hs H' e => ⟨rfl, false, rfl, iteF (k hs H' e)⟩, fun hs p H' e => ⟨rfl, true, rfl, iteT (kn hs H' e)⟩⟩
theorem ok_always_required (T : Txt K mg) : Cal P w K mg base (LX P w) 7 "always_required" (spAlways K) := by
  refine calX (N := ["grammar", "graph", "name"]) T.D_always_required T.g_always_required sc_always_required (fun vs H Q E h => ?_) fun cdv A outer s H vs Q E hr h => ?_
  · obtain ⟨_, _, rfl, _⟩ := h; rfl
  · obtain ⟨v, g, rfl, hg, G, k, kn⟩ := h
    refine ⟨_, (pss_cons (ps_expr (pe_c (ok_check_grammar (P := P) (w := w) (base := base) T) hr (by decide) rfl pass0 (pa_cons (pv 0) pa_nil)))
      (pss_cons (ps_expr (pe_c (ok_check_satisfiable (P := P) (w := w) (base := base) T) hr (by decide) rfl (passes_call (takes_of rfl rfl rfl rfl) fun _ _ _ _ h => h) (pa_cons (pv 0) pa_nil)))
      (pss_cons (ps_set (i := 1) sc_always_required.nd rfl (Or.inr rfl) (pe_c (ok_graph_of (P := P) (w := w) (base := base) T) hr (by decide) rfl pass0 (pa_cons (pv 0) pa_nil)))
      (pss_one (ps_ret (pe_lc (own := [("name", 2)]) (g := gName 2) rfl sc_always_required.nd (pi_list (pe_c (ok_names_of (P := P) (w := w) (base := base) T) hr (by decide) rfl pass0 (pa_cons (pv 0) pa_nil))) (blkOk_by (N := ["grammar", "graph", "name"]) (sc := defScope s_always_required) (by decide +kernel)) (fun _ _ _ _ _ => (pg_name (i := 2) sc_always_required.nd rfl (Or.inl rfl))) (fun _ _ _ _ _ => (pts_one (pt_cmp (pc_lin P w K (hu_of hr) (pe_tup (pa_cons (pv 2) (pa_cons pe_bl pa_nil))) (pe_mt (ok_ImplicationGraph_reachable (P := P) (w := w) (base := base) T) hr (by decide) pass0 (pv 1) (pa_cons (pe_lst (pa_cons (pe_tup (pa_cons (pv 2) (pa_cons pe_bl pa_nil))) pa_nil)) pa_nil)))))) (fun _ _ _ _ _ => (pv 2)))))))), ?_⟩
    have G2 := G.n2
    refine ⟨_, rfl, _, g, rfl, hg, G, fun H1 e1 => ?_⟩
    refine ⟨_, rfl, _, g, rfl, mGram _ _ _ _ e1 hg, G, fun hs H2 e2 => ?_, kn.mono e1⟩
    have e02 := e1.trans e2
    refine ⟨_, rfl, _, g, rfl, mGram _ _ _ _ e02 hg, G, fun gv H3 e3 hgr => ?_⟩
    obtain ⟨gg, dx, dg, kg, rfl, hgi, _⟩ := id hgr.gr
    have e03 := e02.trans e3
    refine g_go ?_
    dsimp only
    refine s_retN (R := rStr) (as := alwaysOf g) ?_ fun p H4 ys hp e4 h4 hl => k hs p H4 ys (fresh_back e03 hp) (e03.trans e4) h4 hl
    rw [show alwaysOf g = ((names g).filter fun n => decide (((n, true) : Lit) ∈ reachOf (gS g) (n, false))).map (fun n => n) from by unfold alwaysOf; simp]
    refine evn_lcL (K := K) (R := rStr) (S := rStr) (as := names g) (fun n => decide (((n, true) : Lit) ∈ reachOf (gS g) (n, false))) (fun n => n) ?_ (by rw [names_len]; omega) mStr mStr (fun _ => rfl) (fun x n H4 hn e4 hx => ?_) fun x n H4 D l _ e4 hD0 hD hx _ => evr_at bStr hD (evr_var mStr rfl hx)
    · intro H4 e4 Q q
      exact ⟨_, rfl, _, g, rfl, mGram _ _ _ _ (e03.trans e4) hg, by omega, fun p H5 ys hp e5 h5 hl => q _ H5 e5 ⟨p, ys, rfl, sq_of h5, hl⟩⟩
    · intro H5 e5 Q q
      obtain rfl : x = .str n := hx
      have e35 := e4.trans e5
      refine ⟨_, rfl, by show 2 ≤ sizeLine; decide, fun p1 hp1 => ?_⟩
      have e6 := Ex.new (o := .tup [V.str n, .bl true]) hp1
      refine ⟨_, rfl, gg, dx, _, rfl, (e35.trans e6) _ _ hgi, rfl, _, rfl, by show 2 ≤ sizeLine; decide, fun p2 hp2 => ⟨by show 1 ≤ sizeLine; decide, fun p3 hp3 => ?_⟩⟩
      have e7 := Ex.new (o := .tup [V.str n, .bl false]) hp2
      have e8 := Ex.new (o := .lst [V.ref p2]) hp3
      have e38 := ((e35.trans e6).trans e7).trans e8
      have g8 := hgr.mono e38
      refine ⟨_, _, _, _, (n, false), rfl, g8.gr, g8.ok, mem_litsN.mpr hn, ⟨p3, _, rfl, sq_of upd_same, .cons ⟨p2, _, _, rfl, st_of (e8 _ _ upd_same), rfl, rfl⟩ .nil⟩, fun d H9 kvs hd e9 h9 h9k hke => ?_⟩
      have e59 := ((e6.trans e7).trans e8).trans e9
      refine ⟨d, kvs, (n, true), rfl, ⟨p1, _, _, rfl, st_of (((e7.trans e8).trans e9) _ _ upd_same), rfl, rfl⟩, lok_of h9 h9k, ?_⟩
      rw [lkV_isSome, hke]
      exact ⟨_, rfl, q H9 e59⟩
theorem ok_never_possible (T : Txt K mg) : Cal P w K mg base (LX P w) 7 "never_possible" (spNever K) := by
  refine calX (N := ["grammar", "graph", "name"]) T.D_never_possible T.g_never_possible sc_never_possible (fun vs H Q E h => ?_) fun cdv A outer s H vs Q E hr h => ?_
  · obtain ⟨_, _, rfl, _⟩ := h; rfl
  · obtain ⟨v, g, rfl, hg, G, k, kn⟩ := h
    refine ⟨_, (pss_cons (ps_expr (pe_c (ok_check_grammar (P := P) (w := w) (base := base) T) hr (by decide) rfl pass0 (pa_cons (pv 0) pa_nil)))
      (pss_cons (ps_expr (pe_c (ok_check_satisfiable (P := P) (w := w) (base := base) T) hr (by decide) rfl (passes_call (takes_of rfl rfl rfl rfl) fun _ _ _ _ h => h) (pa_cons (pv 0) pa_nil)))
      (pss_cons (ps_set (i := 1) sc_never_possible.nd rfl (Or.inr rfl) (pe_c (ok_graph_of (P := P) (w := w) (base := base) T) hr (by decide) rfl pass0 (pa_cons (pv 0) pa_nil)))
      (pss_one (ps_ret (pe_lc (own := [("name", 2)]) (g := gName 2) rfl sc_never_possible.nd (pi_list (pe_c (ok_names_of (P := P) (w := w) (base := base) T) hr (by decide) rfl pass0 (pa_cons (pv 0) pa_nil))) (blkOk_by (N := ["grammar", "graph", "name"]) (sc := defScope s_never_possible) (by decide +kernel)) (fun _ _ _ _ _ => (pg_name (i := 2) sc_never_possible.nd rfl (Or.inl rfl))) (fun _ _ _ _ _ => (pts_one (pt_cmp (pc_lin P w K (hu_of hr) (pe_tup (pa_cons (pv 2) (pa_cons pe_bl pa_nil))) (pe_mt (ok_ImplicationGraph_reachable (P := P) (w := w) (base := base) T) hr (by decide) pass0 (pv 1) (pa_cons (pe_lst (pa_cons (pe_tup (pa_cons (pv 2) (pa_cons pe_bl pa_nil))) pa_nil)) pa_nil)))))) (fun _ _ _ _ _ => (pv 2)))))))), ?_⟩
    have G2 := G.n2
    refine ⟨_, rfl, _, g, rfl, hg, G, fun H1 e1 => ?_⟩
    refine ⟨_, rfl, _, g, rfl, mGram _ _ _ _ e1 hg, G, fun hs H2 e2 => ?_, kn.mono e1⟩
    have e02 := e1.trans e2
    refine ⟨_, rfl, _, g, rfl, mGram _ _ _ _ e02 hg, G, fun gv H3 e3 hgr => ?_⟩
    obtain ⟨gg, dx, dg, kg, rfl, hgi, _⟩ := id hgr.gr
    have e03 := e02.trans e3
    refine g_go ?_
    dsimp only
    refine s_retN (R := rStr) (as := neverOf g) ?_ fun p H4 ys hp e4 h4 hl => k hs p H4 ys (fresh_back e03 hp) (e03.trans e4) h4 hl
    rw [show neverOf g = ((names g).filter fun n => decide (((n, false) : Lit) ∈ reachOf (gS g) (n, true))).map (fun n => n) from by unfold neverOf; simp]
    refine evn_lcL (K := K) (R := rStr) (S := rStr) (as := names g) (fun n => decide (((n, false) : Lit) ∈ reachOf (gS g) (n, true))) (fun n => n) ?_ (by rw [names_len]; omega) mStr mStr (fun _ => rfl) (fun x n H4 hn e4 hx => ?_) fun x n H4 D l _ e4 hD0 hD hx _ => evr_at bStr hD (evr_var mStr rfl hx)
    · intro H4 e4 Q q
      exact ⟨_, rfl, _, g, rfl, mGram _ _ _ _ (e03.trans e4) hg, by omega, fun p H5 ys hp e5 h5 hl => q _ H5 e5 ⟨p, ys, rfl, sq_of h5, hl⟩⟩
    · intro H5 e5 Q q
      obtain rfl : x = .str n := hx
      have e35 := e4.trans e5
      refine ⟨_, rfl, by show 2 ≤ sizeLine; decide, fun p1 hp1 => ?_⟩
      have e6 := Ex.new (o := .tup [V.str n, .bl false]) hp1
      refine ⟨_, rfl, gg, dx, _, rfl, (e35.trans e6) _ _ hgi, rfl, _, rfl, by show 2 ≤ sizeLine; decide, fun p2 hp2 => ⟨by show 1 ≤ sizeLine; decide, fun p3 hp3 => ?_⟩⟩
      have e7 := Ex.new (o := .tup [V.str n, .bl true]) hp2
      have e8 := Ex.new (o := .lst [V.ref p2]) hp3
      have e38 := ((e35.trans e6).trans e7).trans e8
      have g8 := hgr.mono e38
      refine ⟨_, _, _, _, (n, true), rfl, g8.gr, g8.ok, mem_litsN.mpr hn, ⟨p3, _, rfl, sq_of upd_same, .cons ⟨p2, _, _, rfl, st_of (e8 _ _ upd_same), rfl, rfl⟩ .nil⟩, fun d H9 kvs hd e9 h9 h9k hke => ?_⟩
      have e59 := ((e6.trans e7).trans e8).trans e9
      refine ⟨d, kvs, (n, false), rfl, ⟨p1, _, _, rfl, st_of (((e7.trans e8).trans e9) _ _ upd_same), rfl, rfl⟩, lok_of h9 h9k, ?_⟩
      rw [lkV_isSome, hke]
      exact ⟨_, rfl, q H9 e59⟩
theorem ok_implies_literals (T : Txt K mg) : Cal P w K mg base CX0 2 "implies_literals" (spImplies P w K) := by
  refine cal0 (N := ["graph", "left", "right", "start", "goal"]) T.D_implies_literals T.g_implies_literals sc_implies_literals (fun vs H Q E h => ?_) fun cdv A outer s H vs Q E hr h => ?_
  · obtain ⟨_, _, _, _, _, _, _, rfl, _⟩ := h; rfl
  · obtain ⟨vg, va, vb, U, S, l, r, rfl, hgr, ra, rb, hl, hr', k⟩ := h
    obtain ⟨gg, dx, dg, kg, rfl, hgi, _⟩ := id hgr.gr
    refine ⟨_, (pss_cons (ps_for PassesOwn.never rfl (pi_tup (pe_tup (pa_cons (pe_tup (pa_cons (pe_c (ok_negate (P := P) (w := w) (base := base) T) hr (by decide) rfl pass0 (pa_cons (pv 1) pa_nil)) (pa_cons (pv 2) pa_nil))) (pa_cons (pe_tup (pa_cons (pe_c (ok_negate (P := P) (w := w) (base := base) T) hr (by decide) rfl pass0 (pa_cons (pv 1) pa_nil)) (pa_cons (pv 1) pa_nil))) (pa_cons (pe_tup (pa_cons (pe_c (ok_negate (P := P) (w := w) (base := base) T) hr (by decide) rfl pass0 (pa_cons (pv 2) pa_nil)) (pa_cons (pv 2) pa_nil))) pa_nil))))) (pgT K rfl (pgs_cons (pg_name (i := 3) sc_implies_literals.nd rfl (Or.inl rfl)) (pgs_cons (pg_name (i := 4) sc_implies_literals.nd rfl (Or.inl rfl)) pgs_nil))) (pss_one (ps_if (pt_cmp (pc_lin P w K (hu_of hr) (pv 4) (pe_mt (ok_ImplicationGraph_reachable (P := P) (w := w) (base := base) T) hr (by decide) pass0 (pv 0) (pa_cons (pe_lst (pa_cons (pv 3) pa_nil)) pa_nil)))) (pss_one (ps_ret pe_bl)) pss_nil)))
      (pss_one (ps_ret pe_bl))), ?_⟩
    -- the six literals
    refine ⟨_, rfl, _, l, rfl, ra, fun n1 H1 e1 rn1 => ⟨_, rfl, by show 2 ≤ sizeLine; decide, fun p1 hp1 => ?_⟩⟩
    have f1 := e1.trans (Ex.new (o := .tup [n1, vb]) hp1)
    refine ⟨_, rfl, _, l, rfl, mLit _ _ _ _ f1 ra, fun n2 H2 e2 rn2 => ⟨_, rfl, by show 2 ≤ sizeLine; decide, fun p2 hp2 => ?_⟩⟩
    have f2 := f1.trans (e2.trans (Ex.new (o := .tup [n2, va]) hp2))
    refine ⟨_, rfl, _, r, rfl, mLit _ _ _ _ f2 rb, fun n3 H3 e3 rn3 => ⟨_, rfl, by show 2 ≤ sizeLine; decide, fun p3 hp3 => ?_⟩⟩
    have x2 := e2.trans (Ex.new (o := .tup [n2, va]) hp2)
    have x3 := e3.trans (Ex.new (o := .tup [n3, vb]) hp3)
    have f3 := f2.trans x3
    refine ⟨by show 3 ≤ sizeLine; decide, fun p hp => ?_⟩
    have x4 := Ex.new (o := .tup [V.ref p1, .ref p2, .ref p3]) hp
    have f4 := f3.trans x4
    have hpt : SqT K (upd (upd H3 p3 (.tup [n3, vb])) p (.tup [V.ref p1, .ref p2, .ref p3])) p [V.ref p1, .ref p2, .ref p3] := st_of upd_same
    have hls : LR (rT2 K (rLit K) (rLit K)) (upd (upd H3 p3 (.tup [n3, vb])) p (.tup [V.ref p1, .ref p2, .ref p3])) [V.ref p1, .ref p2, .ref p3] [(neg l, r), (neg l, l), (neg r, r)] := by
      refine .cons ⟨p1, _, _, rfl, st_of (((x2.trans x3).trans x4) _ _ upd_same), mLit _ _ _ _ (((Ex.new hp1).trans x2).trans (x3.trans x4)) rn1, mLit _ _ _ _ f4 rb⟩ (.cons ⟨p2, _, _, rfl, st_of ((x3.trans x4) _ _ upd_same), mLit _ _ _ _ ((Ex.new hp2).trans (x3.trans x4)) rn2, mLit _ _ _ _ f4 ra⟩ (.cons ⟨p3, _, _, rfl, st_of (x4 _ _ upd_same), mLit _ _ _ _ ((Ex.new hp3).trans x4) rn3, mLit _ _ _ _ f4 rb⟩ .nil))
    generalize upd (upd H3 p3 (.tup [n3, vb])) p (.tup [V.ref p1, .ref p2, .ref p3]) = H4 at hpt hls f4
    have inU : ∀ q ∈ [(neg l, r), (neg l, l), (neg r, r)], q.1 ∈ U := fun q hq => by
      simp at hq
      rcases hq with rfl | rfl | rfl
      · exact hgr.ng _ hl
      · exact hgr.ng _ hl
      · exact hgr.ng _ hr'
    have hall0 : impB S l r = [(neg l, r), (neg l, l), (neg r, r)].any (fun p => decide (p.2 ∈ reachOf S p.1)) := rfl
    generalize [(neg l, r), (neg l, l), (neg r, r)] = ps at hls inU hall0
    refine ⟨p, rfl, ⟨_, hpt⟩, for_tup (K := K) (a := p) (xs := [V.ref p1, .ref p2, .ref p3]) (fun (i : Nat) (σ' : L2.St) (H' : Hp) => ∃ o3 o4, σ' = [some (.ref gg), some va, some vb, o3, o4] ∧ Ex H4 H' ∧ ∀ q ∈ ps.take i, decide (q.2 ∈ reachOf S q.1) = false) ⟨_, _, rfl, Ex.refl _, fun _ h => by simp at h⟩ (fun i σ' H' _ ⟨_, _, _, e, _⟩ => ex_t e hpt) ?_ ?_⟩
    · rintro i x σ' H5 hi ⟨o3, o4, rfl, e5, hall⟩
      obtain ⟨q, hq, pq, x1, x2, rfl, hpq, r1, r2⟩ := (hls.mono (mT2 mLit mLit) e5).getV hi
      have tk : ps.take (i + 1) = ps.take i ++ [q] := by rw [List.take_succ, hq]; rfl
      refine ⟨_, _, rfl, hpq, rfl, _, _, rfl, _, _, rfl, rfl, ?_⟩
      have f5 := f4.trans e5
      refine ⟨_, rfl, _, rfl, gg, dx, _, rfl, f5 _ _ hgi, rfl, _, rfl, by show 1 ≤ sizeLine; decide, fun pl hpl => ?_⟩
      have e6 := Ex.new (o := .lst [x1]) hpl
      have g6 := hgr.mono (f5.trans e6)
      refine ⟨_, _, _, _, q.1, rfl, g6.gr, g6.ok, inU q (List.mem_of_getElem? hq), ⟨pl, _, rfl, sq_of upd_same, .cons (mLit _ _ _ _ e6 r1) .nil⟩, fun d H7 kvs hd e7 h7 h7k hke => ?_⟩
      refine ⟨d, kvs, q.2, rfl, mLit _ _ _ _ (e6.trans e7) r2, lok_of h7 h7k, ?_⟩
      rw [lkV_isSome, hke]
      cases hb : decide (q.2 ∈ reachOf S q.1) with
      | true =>
        refine ⟨true, rfl, iteT ?_⟩
        have ht : impB S l r = true := by
          rw [hall0, List.any_eq_true]
          exact ⟨q, List.mem_of_getElem? hq, hb⟩
        rw [ht] at k
        exact k H7 ((f5.trans e6).trans e7)
      | false =>
        refine ⟨false, rfl, iteF ⟨_, _, rfl, (e5.trans e6).trans e7, fun o ho => ?_⟩⟩
        rw [tk] at ho
        rcases List.mem_append.mp ho with ho | ho
        · exact hall o ho
        · simp at ho
          subst ho
          exact hb
    · rintro σ' H5 ⟨o3, o4, rfl, e5, hall⟩
      have hps : ps.length = 3 := hls.length.symm
      have hf : impB S l r = false := by
        rw [hall0, List.any_eq_false]
        intro q hq
        have := hall q (by
          show q ∈ ps.take 3
          rw [List.take_of_length_le (by omega)]
          exact hq)
        rw [this]
        simp
      rw [hf] at k
      exact k H5 (f4.trans e5)
theorem ok_are_equivalent (T : Txt K mg) : Cal P w K mg base CX0 3 "are_equivalent" (spEquiv P w K) := by
  refine cal0 (N := ["graph", "first", "second"]) T.D_are_equivalent T.g_are_equivalent sc_are_equivalent (fun vs H Q E h => ?_) fun cdv A outer s H vs Q E hr h => ?_
  · obtain ⟨_, _, _, _, _, rfl, _⟩ := h; rfl
  · obtain ⟨vg, a, b, U, S, rfl, hgr, hU, k⟩ := h
    refine ⟨_, (pss_cons (ps_if (pt_not (pt_val (pe_c (ok_implies_literals (P := P) (w := w) (base := base) T) hr (by decide) rfl pass0 (pa_cons (pv 0) (pa_cons (pe_tup (pa_cons (pv 1) (pa_cons pe_bl pa_nil))) (pa_cons (pe_tup (pa_cons (pv 2) (pa_cons pe_bl pa_nil))) pa_nil)))))) (pss_one (ps_ret pe_bl)) pss_nil)
      (pss_one (ps_ret (pe_c (ok_implies_literals (P := P) (w := w) (base := base) T) hr (by decide) rfl pass0 (pa_cons (pv 0) (pa_cons (pe_tup (pa_cons (pv 1) (pa_cons pe_bl pa_nil))) (pa_cons (pe_tup (pa_cons (pv 2) (pa_cons pe_bl pa_nil))) pa_nil))))))), ?_⟩
    unfold eqvB at k
    refine ⟨_, rfl, _, rfl, by show 2 ≤ sizeLine; decide, fun p1 hp1 => ⟨_, rfl, by show 2 ≤ sizeLine; decide, fun p2 hp2 => ?_⟩⟩
    have e1 := Ex.new (o := .tup [V.str a, .bl false]) hp1
    have e2 := Ex.new (o := .tup [V.str b, .bl true]) hp2
    have f2 := e1.trans e2
    refine ⟨_, _, _, _, S, (a, false), (b, true), rfl, hgr.mono f2, ⟨p1, _, _, rfl, st_of (e2 _ _ upd_same), rfl, rfl⟩, ⟨p2, _, _, rfl, st_of upd_same, rfl, rfl⟩, (hU false).1, (hU true).2, fun H3 e3 => ?_⟩
    have f3 := f2.trans e3
    cases h1 : impB S (a, false) (b, true) with
    | false =>
      rw [h1] at k
      exact ⟨false, rfl, iteT (k H3 f3)⟩
    | true =>
      rw [h1] at k
      refine ⟨true, rfl, iteF ?_⟩
      refine ⟨_, rfl, _, rfl, by show 2 ≤ sizeLine; decide, fun p3 hp3 => ⟨_, rfl, by show 2 ≤ sizeLine; decide, fun p4 hp4 => ?_⟩⟩
      have e4 := Ex.new (o := .tup [V.str a, .bl true]) hp3
      have e5 := Ex.new (o := .tup [V.str b, .bl false]) hp4
      have f5 := (f3.trans e4).trans e5
      exact ⟨_, _, _, _, S, (a, true), (b, false), rfl, hgr.mono f5, ⟨p3, _, _, rfl, st_of (e5 _ _ upd_same), rfl, rfl⟩, ⟨p4, _, _, rfl, st_of upd_same, rfl, rfl⟩, (hU true).1, (hU false).2, fun H6 e6 => k H6 (f5.trans e6)⟩
end
end K19

/-! ## K19V -/
set_option Elab.async false
set_option linter.all false
set_option maxRecDepth 100000
set_option maxHeartbeats 4000000
namespace K19
open PySem PySem.Spec PyProof.Rows L2 Evl

theorem sc_option_groups : FnScope ["grammar", "graph", "groups", "name", "matching", "group"] p_option_groups (defScope s_option_groups) := ⟨rfl, rfl, rfl, by decide +kernel, rfl, by decide +kernel, by decide +kernel⟩
/-! ### groups -/
def addFirst (p : List Str → Bool) (n : Str) : List (List Str) → List (List Str)
  | [] => [[n]]
  | x :: r => if p x = true then (x ++ [n]) :: r else x :: addFirst p n r
def grpStep (S : Lit → List Lit) (gs : List (List Str)) (n : Str) : List (List Str) := addFirst (fun x => eqvB S n (x.headD "")) n gs
noncomputable def groupsOf (g : Gram) : List (List Str) := (names g).foldl (grpStep (gS g)) []
abbrev AG := Addr × List Str
theorem addFirst_none {p : List Str → Bool} {n : Str} : ∀ {L : List AG}, L.filter (fun a => p a.2) = [] → addFirst p n (L.map (·.2)) = L.map (·.2) ++ [[n]]
  | [], _ => rfl
  | a :: r, h => by
    by_cases hp : p a.2 = true
    · rw [List.filter_cons_of_pos (p := fun a : AG => p a.2) hp] at h
      cases h
    · rw [List.filter_cons_of_neg (p := fun a : AG => p a.2) hp] at h
      show (if p a.2 = true then _ else _) = _
      rw [if_neg hp, addFirst_none h]
      rfl
def setA (m : Addr) (n : Str) (a : AG) : AG := if a.1 = m then (a.1, a.2 ++ [n]) else a
theorem setA_id {m : Addr} {n : Str} : ∀ {L : List AG}, m ∉ L.map (·.1) → L.map (setA m n) = L
  | [], _ => rfl
  | a :: r, h => by
    rw [List.map_cons, List.mem_cons, not_or] at h
    rw [List.map_cons, setA_id h.2]
    unfold setA
    rw [if_neg (Ne.symm h.1)]
theorem addFirst_some {p : List Str → Bool} {n : Str} {m : AG} {t : List AG} : ∀ {L : List AG}, (L.map (·.1)).Nodup → L.filter (fun a => p a.2) = m :: t → addFirst p n (L.map (·.2)) = (L.map (setA m.1 n)).map (·.2)
  | [], _, h => nomatch h
  | a :: r, hn, h => by
    rw [List.map_cons, List.nodup_cons] at hn
    by_cases hp : p a.2 = true
    · rw [List.filter_cons_of_pos (p := fun a : AG => p a.2) hp] at h
      injection h with h1 h2
      subst h1
      show (if p a.2 = true then _ else _) = _
      rw [if_pos hp, List.map_cons, setA_id hn.1]
      unfold setA
      rw [if_pos rfl]
      rfl
    · rw [List.filter_cons_of_neg (p := fun a : AG => p a.2) hp] at h
      show (if p a.2 = true then _ else _) = _
      rw [if_neg hp, addFirst_some hn.2 h, List.map_cons]
      have hm : m ∈ r := (List.mem_filter.mp (by rw [h]; exact List.mem_cons_self .. : m ∈ r.filter fun a => p a.2)).1
      have ne : a.1 ≠ m.1 := fun e => hn.1 (by rw [e]; exact List.mem_map.mpr ⟨m, hm, rfl⟩)
      rw [List.map_cons]
      unfold setA
      rw [if_neg ne]
theorem setA_keys {m : Addr} {n : Str} (L : List AG) : (L.map (setA m n)).map (·.1) = L.map (·.1) := by
  rw [List.map_map]
  refine List.map_congr_left fun a _ => ?_
  show (setA m n a).1 = a.1
  unfold setA
  split <;> rfl
/-- an address and its list of texts -/
def rAG : DR AG := fun H v a => v = .ref a.1 ∧ H a.1 = some (.lst (a.2.map V.str))
theorem mAG : Mono rAG := fun _ _ _ _ e h => ⟨h.1, e _ _ h.2⟩
theorem lr_AG {H : Hp} : ∀ {L : List AG}, (∀ a ∈ L, H a.1 = some (.lst (a.2.map V.str))) → LR rAG H (L.map fun a => V.ref a.1) L
  | [], _ => .nil
  | a :: r, h => .cons ⟨rfl, h a (List.mem_cons_self ..)⟩ (lr_AG fun b hb => h b (List.mem_cons_of_mem _ hb))
theorem lr_strOf {H : Hp} : ∀ l : List Str, LR rStr H (l.map V.str) l
  | [] => .nil
  | _ :: r => .cons rfl (lr_strOf r)
structure GI (H5 H : Hp) (gp : Addr) (ns : List Str) (i : Nat) (L : List AG) : Prop where
  ex : ExB gp H5 H
  lst : H gp = some (.lst (L.map fun a => V.ref a.1))
  val : ∀ a ∈ L, H a.1 = some (.lst (a.2.map V.str)) ∧ H5 a.1 = none ∧ a.1 ≠ gp
  nd : (L.map (·.1)).Nodup
  ne : ∀ a ∈ L, a.2 ≠ [] ∧ (∀ z ∈ a.2, z ∈ ns) ∧ a.2.length ≤ i
  len : L.length ≤ i
theorem GI.mono {H5 H H' : Hp} {gp : Addr} {ns : List Str} {i : Nat} {L : List AG} (h : GI H5 H gp ns i L) (e : Ex H H') : GI H5 H' gp ns i L := ⟨fun a o ne ha => e _ _ (h.ex a o ne ha), e _ _ h.lst, fun a ha => ⟨e _ _ (h.val a ha).1, (h.val a ha).2⟩, h.nd, h.ne, h.len⟩
theorem GI.new {H5 H : Hp} {gp a0 : Addr} {ns : List Str} {i : Nat} {L : List AG} {n : Str} (h : GI H5 H gp ns i L) (ha : H a0 = none) (g5 : ∃ o, H5 gp = some o) (hn : n ∈ ns) :
    GI H5 (upd (upd H a0 (.lst [.str n])) gp (.lst (L.map (fun a => V.ref a.1) ++ [.ref a0]))) gp ns (i + 1) (L ++ [(a0, [n])]) := by
  have ne0 : a0 ≠ gp := fun z => by rw [z, h.lst] at ha; cases ha
  have a5 : H5 a0 = none := by
    cases e : H5 a0 with
    | none => rfl
    | some o => rw [h.ex a0 o ne0 e] at ha; cases ha
  have old : ∀ a ∈ L, a.1 ≠ a0 := fun a hl z => by have := (h.val a hl).1; rw [z, ha] at this; cases this
  refine ⟨fun a o n5 h5 => ?_, by rw [upd_same, List.map_append]; rfl, fun a hl => ?_, ?_, fun a hl => ?_, by rw [List.length_append]; have := h.len; simp; omega⟩
  · rw [upd_ne n5, upd_ne (fun z => by rw [z, a5] at h5; cases h5)]
    exact h.ex a o n5 h5
  · rcases List.mem_append.mp hl with hl | hl
    · obtain ⟨h1, h2, h3⟩ := h.val a hl
      exact ⟨by rw [upd_ne h3, upd_ne (old a hl)]; exact h1, h2, h3⟩
    · simp at hl
      subst hl
      exact ⟨by rw [upd_ne ne0]; exact upd_same, a5, ne0⟩
  · rw [List.map_append, List.nodup_append]
    refine ⟨h.nd, by simp, fun x hx y hy e => ?_⟩
    simp at hy
    obtain ⟨a, hl, rfl⟩ := List.mem_map.mp hx
    exact old a hl (by rw [e, hy])
  · rcases List.mem_append.mp hl with hl | hl
    · obtain ⟨h1, h2, h3⟩ := h.ne a hl
      exact ⟨h1, h2, by omega⟩
    · simp at hl
      subst hl
      exact ⟨by simp, fun z hz => by simp at hz; subst hz; exact hn, by simp⟩
theorem GI.app {H5 H : Hp} {gp : Addr} {ns : List Str} {i : Nat} {L : List AG} {n : Str} {m : AG} (h : GI H5 H gp ns i L) (hm : m ∈ L) (hn : n ∈ ns) : GI H5 (upd H m.1 (.lst (m.2.map V.str ++ [.str n]))) gp ns (i + 1) (L.map (setA m.1 n)) := by
  obtain ⟨v1, v2, v3⟩ := h.val m hm
  refine ⟨fun a o n5 h5 => ?_, ?_, fun a hl => ?_, by rw [setA_keys]; exact h.nd, fun a hl => ?_, by rw [List.length_map]; have := h.len; omega⟩
  · rw [upd_ne (fun z => by rw [z, v2] at h5; cases h5)]
    exact h.ex a o n5 h5
  · rw [upd_ne (Ne.symm v3), h.lst, List.map_map]
    congr 2
    refine List.map_congr_left fun a _ => ?_
    show _ = V.ref (setA m.1 n a).1
    unfold setA
    split <;> rfl
  · obtain ⟨b, hb, rfl⟩ := List.mem_map.mp hl
    obtain ⟨h1, h2, h3⟩ := h.val b hb
    unfold setA
    by_cases e : b.1 = m.1
    · rw [if_pos e]
      refine ⟨?_, h2, h3⟩
      show upd H m.1 _ b.1 = _
      rw [e, upd_same, List.map_append]
      have eb : b.2 = m.2 := by
        rw [e, v1] at h1
        have z := Option.some.inj h1
        injection z with z
        have inj : ∀ {x y : List Str}, x.map V.str = y.map V.str → x = y := by
          intro x
          induction x with
          | nil => intro y hy; cases y with
            | nil => rfl
            | cons _ _ => cases hy
          | cons a r ih => intro y hy; cases y with
            | nil => cases hy
            | cons b s =>
              rw [List.map_cons, List.map_cons] at hy
              injection hy with h1 h2
              injection h1 with h1
              rw [h1, ih h2]
        exact (inj z).symm
      rw [eb]
      rfl
    · rw [if_neg e]
      exact ⟨by rw [upd_ne e]; exact h1, h2, h3⟩
  · obtain ⟨b, hb, rfl⟩ := List.mem_map.mp hl
    obtain ⟨h1, h2, h3⟩ := h.ne b hb
    unfold setA
    by_cases e : b.1 = m.1
    · rw [if_pos e]
      refine ⟨by simp, fun z hz => ?_, by simp; omega⟩
      rcases List.mem_append.mp hz with hz | hz
      · exact h2 z hz
      · simp at hz
        subst hz
        exact hn
    · rw [if_neg e]
      exact ⟨h1, h2, by omega⟩
def spGroups (K : PySem.W.Frag) : Sp := fun vs H Q E => ∃ v g, vs = [v] ∧ rGram K H v g ∧ Good g ∧ (satB g = true → RetN (rNew H rStr) (groupsOf g) H Q) ∧ NoSat K g H E
section
variable {P : Program} {w : World} {K : PySem.W.Frag} {mg : Str → Option Value} {base : Heap}
theorem ok_option_groups (T : Txt K mg) : Cal P w K mg base (LX P w) 7 "option_groups" (spGroups K) := by
  refine calX (N := ["grammar", "graph", "groups", "name", "matching", "group"]) T.D_option_groups T.g_option_groups sc_option_groups (fun vs H Q E h => ?_) fun cdv A outer s H vs Q E hr h => ?_
  · obtain ⟨_, _, rfl, _⟩ := h; rfl
  · obtain ⟨v, g, rfl, hg, G, k, kn⟩ := h
    refine ⟨_, (pss_cons (ps_expr (pe_c (ok_check_grammar (P := P) (w := w) (base := base) T) hr (by decide) rfl pass0 (pa_cons (pv 0) pa_nil)))
      (pss_cons (ps_expr (pe_c (ok_check_satisfiable (P := P) (w := w) (base := base) T) hr (by decide) rfl (passes_call (takes_of rfl rfl rfl rfl) fun _ _ _ _ h => h) (pa_cons (pv 0) pa_nil)))
      (pss_cons (ps_asg (pe_tup (pa_cons (pe_c (ok_graph_of (P := P) (w := w) (base := base) T) hr (by decide) rfl pass0 (pa_cons (pv 0) pa_nil)) (pa_cons (pe_lst pa_nil) pa_nil))) (pgT K rfl (pgs_cons (pg_name (i := 1) sc_option_groups.nd rfl (Or.inr rfl)) (pgs_cons (pg_name (i := 2) sc_option_groups.nd rfl (Or.inl rfl)) pgs_nil))))
      (pss_cons (ps_for (passes_of rfl) rfl (pi_list (pe_c (ok_names_of (P := P) (w := w) (base := base) T) hr (by decide) rfl pass0 (pa_cons (pv 0) pa_nil))) (pg_name (i := 3) sc_option_groups.nd rfl (Or.inr rfl)) (pss_cons (ps_setLc (i := 4) (own := [("group", 5)]) (g := gName 5) rfl sc_option_groups.nd rfl rfl (sw_true rfl rfl rfl (by decide +kernel)) (pi_list (pv 2)) (blkOk_by (N := ["grammar", "graph", "groups", "name", "matching", "group"]) (sc := defScope s_option_groups) (by decide +kernel)) (fun _ _ _ _ _ => (pg_name (i := 5) sc_option_groups.nd rfl (Or.inl rfl))) (fun _ _ _ _ _ => (pts_one (pt_val (pe_c (ok_are_equivalent (P := P) (w := w) (base := base) T) hr (by decide) rfl pass0 (pa_cons (pv 1) (pa_cons (pv 3) (pa_cons (pe_ix (ixL K) (pv 5) pe_int (fun _ _ => rfl)) pa_nil))))))) (fun _ _ _ _ _ => (pv 5)))
      (pss_one (ps_if (pt_cmpR (op_eqNil K hr.units) (pv 4) (pe_lst pa_nil) (nomark _)) (pss_one (ps_expr (pe_bm PySem.F.plainAttrs_list PySem.F.slot_list_append PySem.F.type_list_append mt_append (pv 2) (pa_cons (pe_lst (pa_cons (pv 3) pa_nil)) pa_nil)))) (pss_one (ps_expr (pe_bm PySem.F.plainAttrs_list PySem.F.slot_list_append PySem.F.type_list_append mt_append (pe_ix (ixL K) (pv 4) pe_int (fun _ _ => rfl)) (pa_cons (pv 3) pa_nil))))))))
      (pss_one (ps_ret (pv 2))))))), ?_⟩
    have G2 := G.n2
    refine ⟨_, rfl, _, g, rfl, hg, G, fun H1 e1 => ?_⟩
    refine ⟨_, rfl, _, g, rfl, mGram _ _ _ _ e1 hg, G, fun hs H2 e2 => ?_, kn.mono e1⟩
    have e02 := e1.trans e2
    refine ⟨_, rfl, _, g, rfl, mGram _ _ _ _ e02 hg, G, fun gv H3 e3 hgr => ?_⟩
    obtain ⟨gg, dx, dg, kg, rfl, hgi, _⟩ := id hgr.gr
    have e03 := e02.trans e3
    refine ⟨by show 0 ≤ sizeLine; decide, fun gp hgp => ⟨by show 2 ≤ sizeLine; decide, fun pt hpt => ?_⟩⟩
    refine ⟨_, _, rfl, st_of upd_same, rfl, _, _, rfl, _, _, rfl, rfl, ?_⟩
    have eG : Ex H3 (upd H3 gp (.lst [])) := Ex.new hgp
    have e4 := eG.trans (Ex.new (o := .tup [V.ref gg, .ref gp]) hpt)
    have h4g : (upd (upd H3 gp (.lst [])) pt (.tup [V.ref gg, .ref gp])) gp = some (.lst []) := (Ex.new hpt) _ _ upd_same
    have gp0 : H3 gp = none := hgp
    generalize upd (upd H3 gp (.lst [])) pt (.tup [V.ref gg, .ref gp]) = H4 at e4 h4g
    refine ⟨_, rfl, _, g, rfl, mGram _ _ _ _ (e03.trans e4) hg, by omega, fun pn H5 ys hpn e5 h5 hyl => ?_⟩
    have h5g := e5 _ _ h4g
    have npg : pn ≠ gp := fun z => by rw [z, h4g] at hpn; cases hpn
    have ex5 : ∀ {H' : Hp}, ExB gp H5 H' → Ex H3 H' := fun {H'} hb a o ha => hb a o (fun z => by rw [z, gp0] at ha; cases ha) ((e4.trans e5) _ _ ha)
    refine ⟨pn, rfl, ⟨ys, sq_of h5⟩, for_list (K := K) (a := pn) (xs := ys) (fun (i : Nat) (σ' : L2.St) (H' : Hp) => ∃ o3 o4 L, σ' = [some v, some (.ref gg), some (.ref gp), o3, o4, none] ∧ GI H5 H' gp (names g) i L ∧ L.map (·.2) = ((names g).take i).foldl (grpStep (gS g)) []) ⟨_, _, [], rfl, ⟨fun _ _ _ h => h, h5g, fun _ h => (nomatch h), List.nodup_nil, fun _ h => (nomatch h), Nat.le_refl _⟩, rfl⟩ (fun i σ' H' _ ⟨_, _, _, _, gi, _⟩ => sq_of (gi.ex _ _ npg h5)) ?_ ?_⟩
    · rintro i x σ' H6 hi ⟨o3, o4, L, rfl, gi, hL⟩
      obtain ⟨n, hn, rx⟩ := hyl.getV hi
      obtain rfl : x = .str n := rx
      have hm : n ∈ names g := List.mem_of_getElem? hn
      have tk : (names g).take (i + 1) = (names g).take i ++ [n] := by rw [List.take_succ, hn]; rfl
      have hi6 : i < 6 := by
        have := (List.getElem?_eq_some_iff.mp hn).1
        rw [names_len] at this
        omega
      have fl : ((names g).take (i + 1)).foldl (grpStep (gS g)) [] = grpStep (gS g) (L.map (·.2)) n := by rw [tk, List.foldl_append, hL]; rfl
      rw [fl]
      refine g_go ?_
      dsimp only
      refine q_asgN (R := rAG) (evn_lcL (K := K) (R := rAt H6 rAG) (S := rAG) (as := L) (fun a => eqvB (gS g) n (a.2.headD "")) (fun a => a) (evr_var (mLst mAtS) rfl ⟨gp, _, rfl, sq_of gi.lst, LR.at (lr_AG fun a ha => (gi.val a ha).1)⟩) (by have := gi.len; omega) mAtS mAG (fun _ => rfl) (fun x a H7 ha e7 hx => ?_) fun x a H7 D l ha e7 hD0 hD hx _ => ?_) fun pm H7 zs hpm e7 h7 hl7 => ?_
      · intro H8 e8 Q q
        obtain ⟨rfl, hx2⟩ := (show rAG H6 x a from hx)
        obtain ⟨ne1, ne2, _⟩ := gi.ne a ha
        obtain ⟨h0, r0, ea⟩ : ∃ h0 r0, a.2 = h0 :: r0 := by
          cases e : a.2 with
          | nil => exact absurd e ne1
          | cons h0 r0 => exact ⟨h0, r0, rfl⟩
        have mh : h0 ∈ names g := ne2 h0 (by rw [ea]; exact List.mem_cons_self ..)
        have e68 := e7.trans e8
        refine ⟨_, rfl, _, rfl, _, rfl, _, _, _, .str h0, rfl, rfl, sq_of (e68 _ _ hx2), at0 (by rw [ea]; rfl), _, n, h0, _, gS g, rfl, hgr.mono ((ex5 gi.ex).trans e68), fun t => ⟨mem_litsN.mpr hm, mem_litsN.mpr mh⟩, fun H9 e9 => ⟨_, ?_, q H9 (e8.trans e9 |> fun _ => e9)⟩⟩
        rw [ea]
        rfl
      · obtain ⟨rfl, hx2⟩ := (show rAG H6 x a from hx)
        have ne : a.1 ≠ D := fun z => by rw [z, hD0] at hx2; cases hx2
        intro H8 e8 Q q
        exact ⟨_, rfl, q _ H8 (Ex.refl _) ⟨⟨rfl, (e7.trans e8) _ _ hx2⟩, fun ys => ⟨rfl, by rw [upd_ne ne]; exact (e7.trans e8) _ _ hx2⟩⟩⟩
      · have gi7 := gi.mono e7
        rw [List.map_id'] at hl7
        refine ⟨_, rfl, by show 0 ≤ sizeLine; decide, fun q hq => ⟨pm, q, zs, rfl, rfl, sq_of ((Ex.new hq) _ _ h7), sq_of upd_same, ?_⟩⟩
        have e8 : Ex H7 (upd H7 q (.lst [])) := Ex.new hq
        have gi8 := gi7.mono e8
        have hl8 := hl7.mono mAG e8
        have h8 := e8 _ _ h7
        generalize upd H7 q (.lst []) = H8 at e8 gi8 hl8 h8
        cases hfl : L.filter (fun a => eqvB (gS g) n (a.2.headD "")) with
        | nil =>
          rw [hfl] at hl8
          have ez : zs = [] := (lr_nil hl8).mpr rfl
          refine ⟨true, by rw [decide_eq_true ez], iteT ?_⟩
          refine ⟨_, rfl, .inl ⟨rfl, _, sq_of gi8.lst⟩, _, rfl, by show 1 ≤ sizeLine; decide, fun a0 ha0 => ?_⟩
          have ne0 : a0 ≠ gp := fun z => by rw [z, gi8.lst] at ha0; cases ha0
          refine ⟨gp, _, _, rfl, rfl, by rw [upd_ne (Ne.symm ne0)]; exact gi8.lst, sz_lt (by rw [List.length_map]; have := gi.len; omega), ?_⟩
          refine ⟨_, _, _, rfl, gi8.new ha0 ⟨_, h5g⟩ hm, ?_⟩
          unfold grpStep
          rw [addFirst_none hfl, List.map_append]
          rfl
        | cons m t =>
          rw [hfl] at hl8
          cases hl8 with
          | @cons z0 _ zr _ rz tz =>
            refine ⟨false, by rw [decide_eq_false (by simp)], iteF ?_⟩
            obtain ⟨rfl, hz⟩ := rz
            have hmL : m ∈ L := (List.mem_filter.mp (by rw [hfl]; exact List.mem_cons_self .. : m ∈ L.filter _)).1
            refine ⟨_, rfl, _, _, _, _, rfl, rfl, sq_of h8, at0 rfl, .inl ⟨rfl, _, sq_of hz⟩, _, rfl, _, _, _, rfl, rfl, hz, sz_lt (by rw [List.length_map]; have := (gi.ne m hmL).2.2; omega), ?_⟩
            refine ⟨_, _, _, rfl, gi8.app hmL hm, ?_⟩
            unfold grpStep
            rw [addFirst_some gi.nd hfl]
    · rintro σ' H6 ⟨o3, o4, L, rfl, gi, hL⟩
      have hl : ys.length = (names g).length := hyl.length
      rw [hl, List.take_length] at hL
      refine ⟨_, rfl, k hs gp H6 _ (fresh_back e03 gp0) (e03.trans (ex5 gi.ex)) gi.lst ?_⟩
      rw [show groupsOf g = L.map (·.2) from hL.symm]
      have hv := gi.val
      clear hL gi
      induction L with
      | nil => exact .nil
      | cons a r ih => exact .cons ⟨a.1, _, rfl, fresh_back (e03.trans (e4.trans e5)) (hv a (List.mem_cons_self ..)).2.1, (hv a (List.mem_cons_self ..)).1, lr_strOf _⟩ (ih fun b hb => hv b (List.mem_cons_of_mem _ hb))
end
end K19

/-! ## K19W -/
set_option Elab.async false
set_option linter.all false
set_option maxRecDepth 100000
set_option maxHeartbeats 4000000
namespace K19
open PySem PySem.Spec PyProof.Rows L2 Evl



theorem sc_satisfies : FnScope ["clauses", "names", "clause", "name", "truth"] p_satisfies (defScope s_satisfies) := ⟨rfl, rfl, rfl, by decide +kernel, rfl, by decide +kernel, by decide +kernel⟩
theorem sc_subsets_by_size : FnScope ["names", "result", "name", "subset", "size"] p_subsets_by_size (defScope s_subsets_by_size) := ⟨rfl, rfl, rfl, by decide +kernel, rfl, by decide +kernel, by decide +kernel⟩
theorem sc_accepted_sets : FnScope ["grammar", "subset"] p_accepted_sets (defScope s_accepted_sets) := ⟨rfl, rfl, rfl, by decide +kernel, rfl, by decide +kernel, by decide +kernel⟩
/-! ### a comprehension whose target is a pair -/
abbrev gPr (K : PySem.W.Frag) (j1 j2 : Nat) : TG := gTup K 2 (gCons (gName j1) (gCons (gName j2) gNil))
section
variable {α β γ : Type} {K : PySem.W.Frag} {σ : L2.St} {H : Hp} {te tl : TE} {R1 : DR α} {R2 : DR β} {S : DR γ}
theorem evn_lcT2 {j1 j2 : Nat} {vs : List Nat} {as : List (α × β)} (gv : α × β → γ) (h : EvR tl σ H (rTpl K (rT2 K R1 R2)) as) (hz : as.length ≤ 40000) (m1 : Mono R1) (m2 : Mono R2) (mS : Mono S) (hw : ∀ x y, wipe (((wipe σ vs).set j1 (some x)).set j2 (some y)) vs = wipe σ vs)
    (he : ∀ x y a H1 D l, a ∈ as → Ex H H1 → H D = none → H1 D = some (.lst l) → R1 H1 x a.1 → R2 H1 y a.2 → EvR te (((wipe σ vs).set j1 (some x)).set j2 (some y)) H1 (At D S) (gv a)) : EvN (tLc (iTup K tl) (gPr K j1 j2) tYes te vs) σ H S (as.map gv) := by
  intro H1 e Q q
  refine h H1 e _ fun v H2 e2 ⟨p, xs, hv, hs, hl⟩ => ⟨p, hv, ⟨xs, hs⟩, ?_⟩
  refine evn_it (R := rT2 K R1 R2) (g := gPr K j1 j2) (tt := tYes) (te := te) (σ := σ) (vs := vs) (S := S) (H0 := H2) as (fun _ => true) gv (fun σ2 H3 a => ∃ x y, σ2 = ((wipe σ vs).set j1 (some x)).set j2 (some y) ∧ R1 H3 x a.1 ∧ R2 H3 y a.2) (walk_tup (K := K) (a := p) (xs := xs)) hl.length.symm (by rw [hl.length]; exact hz) (fun H3 e3 => ex_t e3 hs) (fun i H3 x H4 a ha e3 hy => ?_) mS (fun x a H3 ha e3 r Qs k => ?_)
    (fun σ2 H3 a ha e3 _ ⟨x, y, h1, h2, h3⟩ => et_yes) (fun σ2 H3 a D l ha e3 h0 hD _ ⟨x, y, h1, h2, h3⟩ hf => by rw [h1]; exact he x y a H3 D l ha ((e.trans e2).trans e3) (fresh_back (e.trans e2) h0) hD h2 h3) (fun p' H3 xs' h1 h2 h3 h4 => q p' H3 xs' (fresh_back e2 h1) (e2.trans h2) h3 (by rw [filter_true] at h4; exact h4))
  · obtain ⟨rfl, hx⟩ := hy
    obtain ⟨a', ha', ra⟩ := hl.getV hx
    rw [ha] at ha'
    cases ha'
    exact ⟨Ex.refl _, mT2 m1 m2 _ _ _ _ e3 ra⟩
  · obtain ⟨pt, x1, x2, rfl, hpt, r1, r2⟩ := r
    exact ⟨_, _, rfl, hpt, rfl, _, _, rfl, _, _, rfl, rfl, k _ _ (Ex.refl _) (hw x1 x2) ⟨x1, x2, rfl, r1, r2⟩⟩
theorem evn_lcL2 {j1 j2 : Nat} {vs : List Nat} {as : List (α × β)} (gv : α × β → γ) (h : EvR tl σ H (rLst K (rT2 K R1 R2)) as) (hz : as.length ≤ 40000) (m1 : Mono R1) (m2 : Mono R2) (mS : Mono S) (hw : ∀ x y, wipe (((wipe σ vs).set j1 (some x)).set j2 (some y)) vs = wipe σ vs)
    (he : ∀ x y a H1 D l, a ∈ as → Ex H H1 → H D = none → H1 D = some (.lst l) → R1 H1 x a.1 → R2 H1 y a.2 → EvR te (((wipe σ vs).set j1 (some x)).set j2 (some y)) H1 (At D S) (gv a)) : EvN (tLc (iList K tl) (gPr K j1 j2) tYes te vs) σ H S (as.map gv) := by
  intro H1 e Q q
  refine h H1 e _ fun v H2 e2 ⟨p, xs, hv, hs, hl⟩ => ⟨p, hv, ⟨xs, hs⟩, ?_⟩
  refine evn_it (R := rT2 K R1 R2) (g := gPr K j1 j2) (tt := tYes) (te := te) (σ := σ) (vs := vs) (S := S) (H0 := H2) as (fun _ => true) gv (fun σ2 H3 a => ∃ x y, σ2 = ((wipe σ vs).set j1 (some x)).set j2 (some y) ∧ R1 H3 x a.1 ∧ R2 H3 y a.2) (walk_list (K := K) (a := p) (xs := xs)) hl.length.symm (by rw [hl.length]; exact hz) (fun H3 e3 => ex_l e3 hs) (fun i H3 x H4 a ha e3 hy => ?_) mS (fun x a H3 ha e3 r Qs k => ?_)
    (fun σ2 H3 a ha e3 _ ⟨x, y, h1, h2, h3⟩ => et_yes) (fun σ2 H3 a D l ha e3 h0 hD _ ⟨x, y, h1, h2, h3⟩ hf => by rw [h1]; exact he x y a H3 D l ha ((e.trans e2).trans e3) (fresh_back (e.trans e2) h0) hD h2 h3) (fun p' H3 xs' h1 h2 h3 h4 => q p' H3 xs' (fresh_back e2 h1) (e2.trans h2) h3 (by rw [filter_true] at h4; exact h4))
  · obtain ⟨rfl, hx⟩ := hy
    obtain ⟨a', ha', ra⟩ := hl.getV hx
    rw [ha] at ha'
    cases ha'
    exact ⟨Ex.refl _, mT2 m1 m2 _ _ _ _ e3 ra⟩
  · obtain ⟨pt, x1, x2, rfl, hpt, r1, r2⟩ := r
    exact ⟨_, _, rfl, hpt, rfl, _, _, rfl, _, _, rfl, rfl, k _ _ (Ex.refl _) (hw x1 x2) ⟨x1, x2, rfl, r1, r2⟩⟩
end
/-- over a list; what the items stand for is told at the heap where the list has come -/
theorem evn_lcLX {α β : Type} {K : PySem.W.Frag} {σ : L2.St} {H : Hp} {te tl : TE} {R : DR α} {S : DR β} {j : Nat} {tt : TT} {vs : List Nat} {as : List α} (f : α → Bool) (gv : α → β) (h : EvR tl σ H (rLst K R) as) (hz : as.length ≤ 40000) (mS : Mono S) (hw : ∀ x, wipe ((wipe σ vs).set j (some x)) vs = wipe σ vs)
    (ht : ∀ Hs x a H1, a ∈ as → Ex H Hs → Ex Hs H1 → R Hs x a → EvT tt ((wipe σ vs).set j (some x)) H1 (f a))
    (he : ∀ Hs x a H1 D l, a ∈ as → Ex H Hs → Ex Hs H1 → Hs D = none → H1 D = some (.lst l) → R Hs x a → f a = true → EvR te ((wipe σ vs).set j (some x)) H1 (At D S) (gv a)) : EvN (tLc (iList K tl) (gName j) tt te vs) σ H S ((as.filter f).map gv) := by
  intro H1 e Q q
  refine h H1 e _ fun v H2 e2 ⟨p, xs, hv, hs, hl⟩ => ⟨p, hv, ⟨xs, hs⟩, ?_⟩
  refine evn_it (R := rAt H2 R) (g := gName j) (tt := tt) (te := te) (σ := σ) (vs := vs) (S := S) (H0 := H2) as f gv (fun σ2 H3 a => ∃ x, σ2 = (wipe σ vs).set j (some x) ∧ R H2 x a) (walk_list (K := K) (a := p) (xs := xs)) hl.length.symm (by rw [hl.length]; exact hz) (fun H3 e3 => ex_l e3 hs) (fun i H3 x H4 a ha e3 hy => ?_) mS (fun x a H3 ha e3 r Qs k => k _ _ (Ex.refl _) (hw x) ⟨x, rfl, r⟩)
    (fun σ2 H3 a ha e3 _ ⟨x, h1, h2⟩ => by rw [h1]; exact ht H2 x a H3 ha (e.trans e2) e3 h2) (fun σ2 H3 a D l ha e3 h0 hD _ ⟨x, h1, h2⟩ hf => by rw [h1]; exact he H2 x a H3 D l ha (e.trans e2) e3 h0 hD h2 hf) (fun p' H3 xs' h1 h2 h3 h4 => q p' H3 xs' (fresh_back e2 h1) (e2.trans h2) h3 h4)
  obtain ⟨rfl, hx⟩ := hy
  obtain ⟨a', ha', ra⟩ := hl.getV hx
  rw [ha] at ha'
  cases ha'
  exact ⟨Ex.refl _, ra⟩
/-- sorted(xs), whatever its items stand for -/
def rSortE {α : Type} (K : PySem.W.Frag) (enc : α → PyData) : List V → Hp → VK → Prop := fun vs H Q => ∃ R : DR α, rSortD K R enc vs H Q
theorem cr_sortE {X : Cx} {α : Type} (K : PySem.W.Frag) (enc : α → PyData) (hu : X.A.units + 64 < cLine) (hK : X.K = K := by rfl) : CallR X (.builtin "sorted") (rSortE K enc) := by
  intro pins s σ H vs us Q I r h
  obtain ⟨R, h⟩ := h
  exact cr_sortD' K R enc hu hK pins s σ H vs us Q I r h
theorem at_at {α : Type} {Hs H : Hp} {D : Addr} {R : DR α} {v : V} {a : α} (h : R Hs v a) : At D (rAt Hs R) H v a := ⟨h, fun _ => h⟩
/-! ### satisfies -/
def satC (ns : List Str) (c : Clause) : Bool := [(litsOf c).1, (litsOf c).2].any fun l => decide (decide (l.1 ∈ ns) = l.2)
def satisB (cs : List Clause) (ns : List Str) : Bool := cs.all (satC ns)
def spSatisfies (K : PySem.W.Frag) : Sp := fun vs H Q _ => ∃ v u cs ns, vs = [v, u] ∧ rTpl K (rCl K) H v cs ∧ rLst K rStr H u ns ∧ ∀ H', Ex H H' → Q (.bl (satisB cs ns)) H'
theorem any_id {α : Type} (as : List α) (p : α → Bool) : (as.map p).any id = as.any p := by simp [List.any_map]
/-! ### subsets -/
def encSub (p : Int × List Str) : PyData := .tuple [.int p.1, .list (p.2.map PyData.str)]
def rSub (K : PySem.W.Frag) (H0 : Hp) : DR (Int × List Str) := rT2 K rInt (rNew H0 rStr)
theorem mSub {K : PySem.W.Frag} {H0 : Hp} : Mono (rSub K H0) := mT2 mInt (mNew mStr)
def subStep (r : List (List Str)) (n : Str) : List (List Str) := r ++ r.map (· ++ [n])
noncomputable def subsRaw (ns : List Str) : List (List Str) := (sortedBy PyData.str ns).foldl subStep [[]]
def szOf (s : List Str) : Int × List Str := ((s.length : Int), s)
noncomputable def subsetsOf (ns : List Str) : List (List Str) := (sortedBy encSub ((subsRaw ns).map szOf)).map (·.2)
theorem dpAll_strs {K : PySem.W.Frag} {H : Hp} : ∀ {xs : List V} {ls : List Str}, LR rStr H xs ls → DpAll K H xs (ls.map PyData.str)
  | _, _, .nil => .nil
  | _, _, .cons r t => by
    obtain rfl := (show _ = V.str _ from r)
    exact .cons (.str _) (dpAll_strs t)
theorem alike_strsAll : ∀ xs ys : List Str, PySem.W.alikeAll (xs.map PyData.str) (ys.map PyData.str) = true
  | [], _ => by simp [PySem.W.alikeAll]
  | _ :: _, [] => by simp [PySem.W.alikeAll]
  | x :: xs, y :: ys => by
    have h := alike_strsAll xs ys
    simp only [List.map_cons, PySem.W.alikeAll, h, Bool.and_true]
    simp [PySem.W.alike]
theorem srt_strs (K : PySem.W.Frag) (H : Hp) (cs : List Str) : Srt K H rStr PyData.str cs :=
  ⟨fun v a _ h => by obtain rfl := (show v = V.str a from h); exact .str _, PySem.W.AllAlike.of fun b b' => by simp [PySem.W.alike], PySem.W.Sortable.others fun b => ⟨fun h => (nomatch h), fun _ h => (nomatch h)⟩, fun c _ => by simp [PyData.depth]⟩
theorem srt_subs (K : PySem.W.Frag) (H0 H : Hp) (cs : List (Int × List Str)) : Srt K H (rSub K H0) encSub cs :=
  ⟨fun v c _ h => by
    obtain ⟨p, x, y, rfl, h1, h2, q, zs, rfl, _, h3, h4⟩ := h
    obtain rfl : x = .int c.1 := h2
    exact .tup h1 (.cons (.int _) (.cons (.lst (sq_of h3) (dpAll_strs h4)) .nil)), PySem.W.AllAlike.of fun b b' => by simp [encSub, PySem.W.alike, PySem.W.alikeAll, alike_strsAll], PySem.W.Sortable.tuples fun b => ⟨_, _, rfl⟩, fun c _ => by
    have h := depth_strs c.2
    simp only [encSub, PyData.depth, PyData.depthAll, h]
    omega⟩
theorem srt_subsAt (K : PySem.W.Frag) {H0 H3 H : Hp} (e : Ex H3 H) (cs : List (Int × List Str)) : Srt K H (rT2 K rInt (rAt H3 (rNew H0 rStr))) encSub cs :=
  ⟨fun v c hc ⟨p, x, y, h0, h1, h2, h3⟩ => (srt_subs K H0 H cs).1 v c hc ⟨p, x, y, h0, h1, h2, mNew mStr _ _ _ _ e h3⟩, (srt_subs K H0 H cs).2⟩
theorem subStep_len : ∀ (ns : List Str) (r : List (List Str)), (ns.foldl subStep r).length = r.length * 2 ^ ns.length
  | [], r => by simp
  | n :: t, r => by
    rw [List.foldl_cons, subStep_len t]
    unfold subStep
    rw [List.length_append, List.length_map, List.length_cons, Nat.pow_succ]
    rw [← Nat.two_mul, Nat.mul_comm 2, Nat.mul_assoc, Nat.mul_comm 2]
theorem subStep_mem : ∀ (ns : List Str) (r : List (List Str)) (k : Nat), (∀ s ∈ r, s.length ≤ k) → ∀ s ∈ ns.foldl subStep r, s.length ≤ k + ns.length
  | [], r, k, h, s, hs => by simpa using h s hs
  | n :: t, r, k, h, s, hs => by
    rw [List.foldl_cons] at hs
    have := subStep_mem t (subStep r n) (k + 1) (fun x hx => by
      unfold subStep at hx
      rcases List.mem_append.mp hx with hx | hx
      · have := h x hx; omega
      · obtain ⟨y, hy, rfl⟩ := List.mem_map.mp hx
        have := h y hy
        simp
        exact this) s hs
    rw [List.length_cons]
    omega
theorem pow6 {n : Nat} (h : n ≤ 6) : 2 ^ n ≤ 64 := by
  have := Nat.pow_le_pow_right (n := 2) (by decide) h
  simpa using this
def spSubsets (K : PySem.W.Frag) : Sp := fun vs H Q _ => ∃ v ns, vs = [v] ∧ rLst K rStr H v ns ∧ ns.length ≤ 6 ∧ RetN (rNew H rStr) (subsetsOf ns) H Q
noncomputable def acceptedOf (g : Gram) : List (List Str) := (subsetsOf (names g)).filter fun s => satisB g.2.2 s
def spAccepted (K : PySem.W.Frag) : Sp := fun vs H Q _ => ∃ v g, vs = [v] ∧ rGram K H v g ∧ Good g ∧ RetN (rNew H rStr) (acceptedOf g) H Q
section
variable {P : Program} {w : World} {K : PySem.W.Frag} {mg : Str → Option Value} {base : Heap}
theorem ok_satisfies (T : Txt K mg) : Cal P w K mg base CX0 2 "satisfies" (spSatisfies K) := by
  refine cal0 (N := ["clauses", "names", "clause", "name", "truth"]) T.D_satisfies T.g_satisfies sc_satisfies (fun vs H Q E h => ?_) fun cdv A outer s H vs Q E hr h => ?_
  · obtain ⟨_, _, _, _, rfl, _⟩ := h; rfl
  · obtain ⟨v, u, cs, ns, rfl, ⟨pc, zs, rfl, hpc, hcl⟩, ⟨pn, xs, rfl, hpn, hnl⟩, k⟩ := h
    refine ⟨_, (pss_cons (ps_for PassesOwn.never rfl (pi_tup (pv 0)) (pg_name (i := 2) sc_satisfies.nd rfl (Or.inl rfl)) (pss_one (ps_if (pt_not (pt_val (pe_callB (cr_any rfl) rfl T.f_any bt_any (pa_cons (pe_lc (own := [("name", 3), ("truth", 4)]) (g := gTup K 2 (gCons (gName 3) (gCons (gName 4) gNil))) (tt := tYes) rfl sc_satisfies.nd (pi_tup (pe_c (ok_literals_of (P := P) (w := w) (base := base) T) hr (by decide) rfl pass0 (pa_cons (pv 2) pa_nil))) (blkOk_by (N := ["clauses", "names", "clause", "name", "truth"]) (sc := defScope s_satisfies) (by decide +kernel)) (fun _ _ _ _ _ => (pgT K rfl (pgs_cons (pg_name (i := 3) sc_satisfies.nd rfl (Or.inl rfl)) (pgs_cons (pg_name (i := 4) sc_satisfies.nd rfl (Or.inl rfl)) pgs_nil)))) (fun _ _ _ _ _ => pts_nil) (fun _ _ _ _ _ => (pe_cmpR op_eq (pe_cmpR (inSq K) (pv 3) (pv 1) rfl) (pv 4) (nomark _)))) pa_nil)))) (pss_one (ps_ret pe_bl)) pss_nil)))
      (pss_one (ps_ret pe_bl))), ?_⟩
    have ex := lr_strs hnl
    subst ex
    have hcl' := hcl.length
    refine ⟨_, rfl, pc, rfl, ⟨zs, hpc⟩, for_tup (K := K) (a := pc) (xs := zs) (fun (i : Nat) (σ' : L2.St) (H' : Hp) => ∃ o2, σ' = [some (.ref pc), some (.ref pn), o2, none, none] ∧ Ex H H' ∧ ∀ c ∈ cs.take i, satC ns c = true) ⟨_, rfl, Ex.refl _, fun _ h => by simp at h⟩ (fun i σ' H' _ ⟨_, _, e, _⟩ => ex_t e hpc) ?_ ?_⟩
    · rintro i x σ' H1 hi ⟨o2, rfl, e1, hall⟩
      obtain ⟨c, hc, rc⟩ := (hcl.mono mCl e1).getV hi
      have tk : cs.take (i + 1) = cs.take i ++ [c] := by rw [List.take_succ, hc]; rfl
      refine g_go ?_
      refine evr_go (R := rBl) (evr_any (evn_lcT2 (R1 := rStr) (R2 := rBl) (S := rBl) (as := [(litsOf c).1, (litsOf c).2]) (fun l => decide (decide (l.1 ∈ ns) = l.2)) (fun H3 e3 Q q => ?_) (by show 2 ≤ 40000; decide) mStr mBl mBl (fun _ _ => rfl) fun x1 x2 l H3 D l2 hl e3 hD0 hD r1 r2 => evr_at bBl hD fun H4 e4 Q q => ?_)) fun vb H2 e2 hvb => ?_
      · refine ⟨_, rfl, _, c, rfl, mCl _ _ _ _ e3 rc, fun lv H4 e4 rl => ?_⟩
        obtain ⟨pt, y1, y2, rfl, hpt, q1, q2⟩ := rl
        exact q _ H4 e4 ⟨pt, _, rfl, hpt, .cons q1 (.cons q2 .nil)⟩
      · obtain rfl : x1 = .str l.1 := r1
        obtain rfl : x2 = .bl l.2 := r2
        refine ⟨_, rfl, _, rfl, _, _, rfl, .inl (ex_l ((e1.trans e3).trans e4) hpn), rfl, flat_strs _, _, rfl, rfl, q _ H4 (Ex.refl _) ?_⟩
        show V.bl (decide (V.bl (inV (.str l.1) (ns.map V.str)) = V.bl l.2)) = _
        rw [inV_strs]
        congr 1
        simp
      · have hany : (([(litsOf c).1, (litsOf c).2] : List Lit).map fun l => decide (decide (l.1 ∈ ns) = l.2)).any id = satC ns c := by rw [any_id]; rfl
        rw [hany] at hvb
        obtain rfl : vb = .bl (satC ns c) := hvb
        cases hb : satC ns c with
        | true =>
          refine ⟨true, rfl, iteF ⟨_, rfl, e1.trans e2, fun d hd => ?_⟩⟩
          rw [tk] at hd
          rcases List.mem_append.mp hd with hd | hd
          · exact hall d hd
          · simp at hd
            subst hd
            exact hb
        | false =>
          refine ⟨false, rfl, iteT ?_⟩
          have hf : satisB cs ns = false := by
            unfold satisB
            rw [List.all_eq_false]
            exact ⟨c, List.mem_of_getElem? hc, by rw [hb]; simp⟩
          rw [hf] at k
          exact k H2 (e1.trans e2)
    · rintro σ' H1 ⟨o2, rfl, e1, hall⟩
      rw [hcl', List.take_length] at hall
      have ht : satisB cs ns = true := by
        unfold satisB
        rw [List.all_eq_true]
        exact hall
      rw [ht] at k
      exact k H1 e1
theorem ok_subsets_by_size (T : Txt K mg) : Cal P w K mg base CX0 2 "subsets_by_size" (spSubsets K) := by
  refine cal0 (N := ["names", "result", "name", "subset", "size"]) T.D_subsets_by_size T.g_subsets_by_size sc_subsets_by_size (fun vs H Q E h => ?_) fun cdv A outer s H vs Q E hr h => ?_
  · obtain ⟨_, _, rfl, _⟩ := h; rfl
  · obtain ⟨v, ns, rfl, ⟨pv0, xs, rfl, hv, hl⟩, n6, k⟩ := h
    refine ⟨_, (pss_cons (ps_set (i := 1) sc_subsets_by_size.nd rfl (Or.inl rfl) (pe_lst (pa_cons (pe_lst pa_nil) pa_nil)))
      (pss_cons (ps_for PassesOwn.never rfl (pi_list (pe_callB (cr_sortD' K rStr PyData.str hr.units) rfl T.f_sorted bt_sorted (pa_cons (pv 0) pa_nil))) (pg_name (i := 2) sc_subsets_by_size.nd rfl (Or.inr rfl)) (pss_one (ps_set (i := 1) sc_subsets_by_size.nd rfl (Or.inl rfl) (pe_op op_cat (pv 1) (pe_lc (own := [("subset", 3)]) (g := gName 3) (tt := tYes) rfl sc_subsets_by_size.nd (pi_list (pv 1)) (blkOk_by (N := ["names", "result", "name", "subset", "size"]) (sc := defScope s_subsets_by_size) (by decide +kernel)) (fun _ _ _ _ _ => (pg_name (i := 3) sc_subsets_by_size.nd rfl (Or.inl rfl))) (fun _ _ _ _ _ => pts_nil) (fun _ _ _ _ _ => (pe_op op_cat (pv 3) (pe_lst (pa_cons (pv 2) pa_nil)))))))))
      (pss_one (ps_ret (pe_lc (own := [("size", 4), ("subset", 3)]) (g := gTup K 2 (gCons (gName 4) (gCons (gName 3) gNil))) (tt := tYes) rfl sc_subsets_by_size.nd (pi_list (pe_callB (cr_sortE K encSub hr.units) rfl T.f_sorted bt_sorted (pa_cons (pe_lc (own := [("subset", 3)]) (g := gName 3) (tt := tYes) rfl sc_subsets_by_size.nd (pi_list (pv 1)) (blkOk_by (N := ["names", "result", "name", "subset", "size"]) (sc := defScope s_subsets_by_size) (by decide +kernel)) (fun _ _ _ _ _ => (pg_name (i := 3) sc_subsets_by_size.nd rfl (Or.inl rfl))) (fun _ _ _ _ _ => pts_nil) (fun _ _ _ _ _ => (pe_tup (pa_cons (pe_callB (lenSq K) rfl T.f_len bt_len (pa_cons (pv 3) pa_nil)) (pa_cons (pv 3) pa_nil))))) pa_nil))) (blkOk_by (N := ["names", "result", "name", "subset", "size"]) (sc := defScope s_subsets_by_size) (by decide +kernel)) (fun _ _ _ _ _ => (pgT K rfl (pgs_cons (pg_name (i := 4) sc_subsets_by_size.nd rfl (Or.inl rfl)) (pgs_cons (pg_name (i := 3) sc_subsets_by_size.nd rfl (Or.inl rfl)) pgs_nil)))) (fun _ _ _ _ _ => pts_nil) (fun _ _ _ _ _ => (pv 3))))))), ?_⟩
    refine ⟨by show 0 ≤ sizeLine; decide, fun p0 hp0 => ⟨by show 1 ≤ sizeLine; decide, fun p1 hp1 => ?_⟩⟩
    have e1 := (Ex.new (o := .lst []) hp0).trans (Ex.new (o := .lst [V.ref p0]) hp1)
    have i1 : LR (rNew H rStr) (upd (upd H p0 (.lst [])) p1 (.lst [V.ref p0])) [V.ref p0] [[]] := .cons ⟨p0, [], rfl, hp0, (Ex.new hp1) _ _ upd_same, .nil⟩ .nil
    have h1p : (upd (upd H p0 (.lst [])) p1 (.lst [V.ref p0])) p1 = some (.lst [V.ref p0]) := upd_same
    generalize upd (upd H p0 (.lst [])) p1 (.lst [V.ref p0]) = H1 at e1 i1 h1p
    have sl : (sortedBy PyData.str ns).length = ns.length := sortedBy_len _ _
    refine ⟨_, rfl, pv0, xs, ns, rfl, ex_l e1 hv, hl.mono mStr e1, srt_strs K H1 ns, fun ps H2 ys hps eH hyl => ?_⟩
    subst eH
    have e2 : Ex H1 (upd H1 ps (.lst ys)) := Ex.new hps
    have h2s : (upd H1 ps (.lst ys)) ps = some (.lst ys) := upd_same
    have hyl2 := hyl.mono mStr e2
    have h2p := e2 _ _ h1p
    have i2 := i1.mono (mNew mStr) e2
    generalize upd H1 ps (.lst ys) = H2 at e2 h2s hyl2 h2p i2
    have ylen : ys.length = (sortedBy PyData.str ns).length := hyl.length
    have e02 := e1.trans e2
    have hraw : subsRaw ns = (sortedBy PyData.str ns).foldl subStep [[]] := rfl
    generalize sortedBy PyData.str ns = so at sl hyl hyl2 ylen hraw
    refine ⟨ps, rfl, ⟨ys, sq_of h2s⟩, for_list (K := K) (a := ps) (xs := ys) (fun (i : Nat) (σ' : L2.St) (H' : Hp) => ∃ pr rs o2, σ' = [some (.ref pv0), some (.ref pr), o2, none, none] ∧ Ex H2 H' ∧ H' pr = some (.lst rs) ∧ LR (rNew H rStr) H' rs ((so.take i).foldl subStep [[]])) ⟨_, _, _, rfl, Ex.refl _, h2p, i2⟩ (fun i σ' H' _ ⟨_, _, _, _, e, _⟩ => sq_of (e _ _ h2s)) ?_ ?_⟩
    · rintro i x σ' H3 hi ⟨pr, rs, o2, rfl, e3, h3, hrl⟩
      obtain ⟨n, hn, rx⟩ := hyl2.getV hi
      obtain rfl : x = .str n := rx
      have hil : i < ns.length := by
        have := (List.getElem?_eq_some_iff.mp hn).1
        omega
      have tk : so.take (i + 1) = so.take i ++ [n] := by rw [List.take_succ, hn]; rfl
      have fl : (so.take (i + 1)).foldl subStep [[]] = subStep ((so.take i).foldl subStep [[]]) n := by rw [tk, List.foldl_append]; rfl
      have tl : (so.take i).length = i := by rw [List.length_take]; omega
      have rl := subStep_len (so.take i) [[]]
      have rm := subStep_mem (so.take i) [[]] 0 (fun s hs => by simp at hs; subst hs; simp)
      rw [tl] at rl rm
      have p6 := pow6 (n := i) (by omega)
      rw [fl]
      generalize (so.take i).foldl subStep [[]] = r at hrl rl rm
      have r64 : r.length ≤ 64 := by simp at rl; omega
      have rsl := hrl.length
      refine g_go ?_
      refine ⟨_, rfl, ?_⟩
      refine evn_go (evn_lcLX (K := K) (R := rNew H rStr) (S := rNew H rStr) (tt := tYes) (as := r) (fun _ => true) (fun s => s ++ [n]) (evr_var (mLst (mNew mStr)) rfl ⟨pr, rs, rfl, sq_of h3, hrl⟩) (by omega) (mNew mStr) (fun _ => rfl) (fun _ _ _ _ _ _ _ _ => et_yes) fun Hs x s H4 D l hs e3s es4 hD0 hD hx _ => ?_) fun pc H4 zs hpc e4 h4 hl4 => ?_
      · intro H5 e5 Q q
        obtain ⟨pS, ws, rfl, hpS0, hpS, hws⟩ := (show rNew H rStr Hs x s from hx)
        have e25 := es4.trans e5
        have := lr_strs hws
        subst this
        refine ⟨_, rfl, _, rfl, by show 1 ≤ sizeLine; decide, fun pa hpa => ?_⟩
        have e6 := Ex.new (o := .lst [V.str n]) hpa
        refine ⟨pS, pa, _, _, rfl, rfl, (e25.trans e6) _ _ hpS, upd_same, ?_, fun pb hpb => ?_⟩
        · have := rm s hs
          rw [List.length_map]
          show s.length + 1 ≤ sizeLine
          exact sz_of (by omega)
        have e7 := Ex.new (o := .lst (s.map V.str ++ [V.str n])) hpb
        refine q _ _ (e6.trans e7) (at_newl bStr hpb ((e5.trans e6) _ _ hD) e7 ((((e02.trans e3).trans e3s).trans e25).trans e6) upd_same ?_)
        have z := lr_strOf (H := upd (upd H5 pa (.lst [V.str n])) pb (.lst (s.map V.str ++ [V.str n]))) (s ++ [n])
        rw [List.map_append] at z
        exact z
      · rw [filter_true] at hl4
        have zl := hl4.length
        rw [List.length_map] at zl
        refine ⟨pr, pc, rs, zs, rfl, rfl, e4 _ _ h3, h4, sz_of (by omega), fun pd hpd => ?_⟩
        have e5 := Ex.new (o := .lst (rs ++ zs)) hpd
        refine ⟨_, _, _, rfl, (e3.trans e4).trans e5, upd_same, ?_⟩
        unfold subStep
        exact (hrl.mono (mNew mStr) (e4.trans e5)).append (hl4.mono (mNew mStr) e5)
    · rintro σ' H3 ⟨pr, rs, o2, rfl, e3, h3, hrl⟩
      rw [ylen, List.take_length, ← hraw] at hrl
      have rsl := hrl.length
      have rl := subStep_len so [[]]
      rw [← hraw] at rl
      have p6 := pow6 (n := so.length) (by omega)
      have r64 : (subsRaw ns).length ≤ 64 := by simp at rl; omega
      have e03 := e02.trans e3
      unfold subsetsOf at k
      dsimp only
      refine s_retN (R := rAt H3 (rNew H rStr)) (evn_lcL2 (K := K) (j1 := 4) (j2 := 3) (vs := [4, 3]) (R1 := rInt) (R2 := rAt H3 (rNew H rStr)) (S := rAt H3 (rNew H rStr)) (as := sortedBy encSub ((subsRaw ns).map szOf)) (fun p => p.2) ?_ (by rw [sortedBy_len, List.length_map]; omega) mInt mAtS mAtS (fun _ _ => rfl) fun x y a H4 D l _ e4 hD0 hD hx hy => ?_) fun p H4 zs hp e4 h4 hl4 => k p H4 zs (fresh_back e03 hp) (e03.trans e4) h4 (hl4.imp fun v a hv => mNew mStr _ _ _ _ e4 hv)
      · intro H4 e4 Q q
        show tLc (iList K (tVar 1)) (gName 3) tYes (tTup (tCons (tCB (rLen K) (tCons (tVar 3) tNil)) (tCons (tVar 3) tNil))) [3] _ H4 (fun x H5 => rSortE K encSub [x] H5 Q)
        refine evn_go (evn_lcLX (K := K) (R := rAt H3 (rNew H rStr)) (S := rT2 K rInt (rAt H3 (rNew H rStr))) (tt := tYes) (as := subsRaw ns) (fun _ => true) szOf (evr_var (mLst mAtS) rfl ⟨pr, rs, rfl, sq_of (e4 _ _ h3), LR.at hrl⟩) (by omega) (mT2 mInt mAtS) (fun _ => rfl) (fun _ _ _ _ _ _ _ _ => et_yes) fun Hs x s H5 D l hs e4s es5 hD0 hD hx _ => ?_) fun pq H5 ws hpq e5 h5 hl5 => ?_
        · intro H6 e6 Q q
          obtain ⟨pS, ws, rfl, hpS0, hpS, hws⟩ := (show rNew H rStr H3 x s from hx)
          have := lr_strs hws
          subst this
          have e36 := ((e4.trans e4s).trans es5).trans e6
          refine ⟨_, rfl, pS, _, rfl, .inl (sq_of (e36 _ _ hpS)), _, rfl, by show 2 ≤ sizeLine; decide, fun pt hpt => ?_⟩
          refine q _ _ (Ex.new hpt) (at_t2 ((e6.trans (Ex.new hpt)) _ _ hD) (st_of upd_same) ?_ (at_at hx))
          rw [List.length_map]
          exact at_int
        · rw [filter_true] at hl5
          refine ⟨rT2 K rInt (rAt H3 (rNew H rStr)), pq, ws, _, rfl, sq_of h5, hl5, ?_, fun p2 H6 us hp2 eH hl6 => ?_⟩
          · exact srt_subsAt K (e4.trans e5) _
          · subst eH
            exact q _ _ (e5.trans (Ex.new hp2)) ⟨p2, us, rfl, sq_of upd_same, hl6.mono (mT2 mInt mAtS) (Ex.new hp2)⟩
      · intro H5 e5 Q q
        exact ⟨_, rfl, q _ H5 (Ex.refl _) (at_at hy)⟩
theorem ok_accepted_sets (T : Txt K mg) : Cal P w K mg base CX0 3 "accepted_sets" (spAccepted K) := by
  refine cal0 (N := ["grammar", "subset"]) T.D_accepted_sets T.g_accepted_sets sc_accepted_sets (fun vs H Q E h => ?_) fun cdv A outer s H vs Q E hr h => ?_
  · obtain ⟨_, _, rfl, _⟩ := h; rfl
  · obtain ⟨v, g, rfl, hg, G, k⟩ := h
    refine ⟨_, (pss_one (ps_ret (pe_lc (own := [("subset", 1)]) (g := gName 1) rfl sc_accepted_sets.nd (pi_list (pe_c (ok_subsets_by_size (P := P) (w := w) (base := base) T) hr (by decide) rfl pass0 (pa_cons (pe_c (ok_names_of (P := P) (w := w) (base := base) T) hr (by decide) rfl pass0 (pa_cons (pv 0) pa_nil)) pa_nil))) (blkOk_by (N := ["grammar", "subset"]) (sc := defScope s_accepted_sets) (by decide +kernel)) (fun _ _ _ _ _ => (pg_name (i := 1) sc_accepted_sets.nd rfl (Or.inl rfl))) (fun _ _ _ _ _ => (pts_one (pt_val (pe_c (ok_satisfies (P := P) (w := w) (base := base) T) hr (by decide) rfl pass0 (pa_cons (pe_ix (ixT K) (pv 0) pe_int (fun _ _ => rfl)) (pa_cons (pv 1) pa_nil)))))) (fun _ _ _ _ _ => (pv 1))))), ?_⟩
    have G2 := G.n2
    have l64 : (subsetsOf (names g)).length ≤ 64 := by
      unfold subsetsOf subsRaw
      rw [List.length_map, sortedBy_len, List.length_map, subStep_len, sortedBy_len]
      have := pow6 (n := (names g).length) (by rw [names_len]; omega)
      simpa using this
    unfold acceptedOf at k
    refine s_retN (R := rNew H rStr) (as := ((subsetsOf (names g)).filter fun s => satisB g.2.2 s).map fun s => s) (evn_lcLX (K := K) (R := rNew H rStr) (S := rNew H rStr) (as := subsetsOf (names g)) (fun s => satisB g.2.2 s) (fun s => s) (fun H1 e1 Q q => ?_) (by omega) (mNew mStr) (fun _ => rfl) (fun Hs x s H1 hs e1 e2 hx => ?_) fun Hs x s H1 D l hs e1 e2 hD0 hD hx _ => ?_) fun p H1 ys hp e1 h1 hl1 => k p H1 ys hp e1 h1 (by rw [List.map_id'] at hl1; exact hl1)
    · refine ⟨_, rfl, _, g, rfl, mGram _ _ _ _ e1 hg, by omega, fun pn H2 ys hpn e2 h2 hl2 => ?_⟩
      refine ⟨_, names g, rfl, ⟨pn, ys, rfl, sq_of h2, hl2⟩, by rw [names_len]; omega, fun ps H3 zs hps e3 h3 hl3 => ?_⟩
      refine q _ H3 (e2.trans e3) ⟨ps, zs, rfl, sq_of h3, hl3.imp fun v a hv => ?_⟩
      obtain ⟨pa, ws, rfl, h4, h5, h6⟩ := hv
      exact ⟨pa, ws, rfl, fresh_back (e1.trans e2) h4, h5, h6⟩
    · intro H3 e3 Q q
      obtain ⟨pg, y1, y2, y3, rfl, hpg, _, _, hcl⟩ := mGram _ _ _ _ ((e1.trans e2).trans e3) hg
      refine ⟨_, rfl, _, _, _, _, rfl, rfl, hpg, atI_nat (j := 2) rfl, _, rfl, _, _, g.2.2, s, rfl, hcl, (mNew mStr _ _ _ _ (e2.trans e3) hx).lst, fun H4 e4 => ⟨_, rfl, q H4 e4⟩⟩
    · intro H3 e3 Q q
      exact ⟨_, rfl, q _ H3 (Ex.refl _) (at_list mStr bStr hx (e2.trans e3) hD0 (e3 _ _ hD))⟩
end
end K19

/-! ## K19X -/
set_option Elab.async false
set_option linter.all false
set_option maxRecDepth 100000
set_option maxHeartbeats 4000000
namespace K19
open PySem PySem.Spec PyProof.Rows L2 Evl





theorem sc_implying_chain : FnScope ["graph", "clause", "left", "right", "pairs", "chains", "start", "goal", "candidates", "chain"] p_implying_chain (defScope s_implying_chain) := ⟨rfl, rfl, rfl, by decide +kernel, rfl, by decide +kernel, by decide +kernel⟩
theorem sc_implied : FnScope ["grammar", "clause"] p_implied (defScope s_implied) := ⟨rfl, rfl, rfl, by decide +kernel, rfl, by decide +kernel, by decide +kernel⟩
theorem sc_counterexample : FnScope ["grammar", "clause", "names"] p_counterexample (defScope s_counterexample) := ⟨rfl, rfl, rfl, by decide +kernel, rfl, by decide +kernel, by decide +kernel⟩
theorem sc_is_redundant : FnScope ["names", "clauses", "index", "others"] p_is_redundant (defScope s_is_redundant) := ⟨rfl, rfl, rfl, by decide +kernel, rfl, by decide +kernel, by decide +kernel⟩
theorem sc_redundant_clauses : FnScope ["grammar", "names", "clauses", "index"] p_redundant_clauses (defScope s_redundant_clauses) := ⟨rfl, rfl, rfl, by decide +kernel, rfl, by decide +kernel, by decide +kernel⟩
/-! ### slices of tuples -/
theorem sl_take {K : PySem.W.Frag} {H : Hp} {a : Addr} {xs : List V} {i : Nat} {Q : VK} (h : SqT K H a xs) (q : ∀ p H', Ex H H' → SqT K H' p (xs.take i) → Q (.ref p) H') : rSlA K (.ref a) none (some (i : Int)) H Q := by
  refine ⟨a, xs, rfl, h, fun ⟨_, h2⟩ => ?_, fun _ p hp => ?_⟩
  · rw [HT.sIx_nat] at h2
    have e : xs.take i = xs := List.take_of_length_le (by omega)
    exact q a H (Ex.refl _) (by rw [e]; exact h)
  · have e : cutV xs none (some (i : Int)) = xs.take i := by
      unfold cutV
      rw [HT.sIx_nat, HT.sIx_none, List.drop_zero, Nat.sub_zero]
      rcases Nat.le_total i xs.length with h | h
      · rw [Nat.min_eq_left h]
      · rw [Nat.min_eq_right h, List.take_of_length_le (Nat.le_refl _), List.take_of_length_le h]
    rw [e]
    exact q p _ (Ex.new hp) (st_of upd_same)
theorem sl_drop {K : PySem.W.Frag} {H : Hp} {a : Addr} {xs : List V} {i : Nat} {Q : VK} (h : SqT K H a xs) (hi : i ≤ xs.length) (q : ∀ p H', Ex H H' → SqT K H' p (xs.drop i) → Q (.ref p) H') : rSlA K (.ref a) (some (i : Int)) none H Q := by
  refine ⟨a, xs, rfl, h, fun ⟨h1, _⟩ => ?_, fun _ p hp => ?_⟩
  · rw [HT.sIx_nat] at h1
    have e : xs.drop i = xs := by
      have : i = 0 ∨ xs.length = 0 := by omega
      rcases this with rfl | h0
      · rfl
      · rw [List.length_eq_zero_iff.mp h0]
        simp
    exact q a H (Ex.refl _) (by rw [e]; exact h)
  · have e : cutV xs (some (i : Int)) none = xs.drop i := by
      unfold cutV
      rw [HT.sIx_nat, HT.sIx_none, Nat.min_eq_left hi]
      exact List.take_of_length_le (by rw [List.length_drop]; exact Nat.le_refl _)
    rw [e]
    exact q p _ (Ex.new hp) (st_of upd_same)
theorem cat_any {K : PySem.W.Frag} {H : Hp} {a b : Addr} {xs ys : List V} {Q : VK} (ha : SqT K H a xs) (hb : SqT K H b ys) (hz : xs.length + ys.length ≤ sizeLine) (q : ∀ p H', Ex H H' → SqT K H' p (xs ++ ys) → Q (.ref p) H') : rCatA K (.ref a) (.ref b) H Q :=
  ⟨a, b, xs, ys, rfl, rfl, ha, hb, hz, fun h => q b H (Ex.refl _) (by rw [h]; exact hb), fun _ h => q a H (Ex.refl _) (by rw [h, List.append_nil]; exact ha), fun _ _ p hp => q p _ (Ex.new hp) (st_of upd_same)⟩
theorem LR.take {α : Type} {R : DR α} {H : Hp} : ∀ {xs : List V} {as : List α} (i : Nat), LR R H xs as → LR R H (xs.take i) (as.take i)
  | _, _, 0, _ => by simp; exact .nil
  | _, _, _ + 1, .nil => by simp; exact .nil
  | _, _, i + 1, .cons r t => .cons r (LR.take i t)
theorem LR.drop {α : Type} {R : DR α} {H : Hp} : ∀ {xs : List V} {as : List α} (i : Nat), LR R H xs as → LR R H (xs.drop i) (as.drop i)
  | _, _, 0, h => by simpa using h
  | _, _, _ + 1, .nil => by simp; exact .nil
  | _, _, i + 1, .cons r t => LR.drop i t
/-- over range(n) -/
theorem evn_lcN {β : Type} {σ : L2.St} {H : Hp} {te : TE} {tl : TA} {S : DR β} {j n : Nat} {tt : TT} {vs : List Nat} (f : Nat → Bool) (gv : Nat → β) (h : EvA tl σ H [.int (n : Nat)]) (hz : n ≤ 40000) (mS : Mono S) (hw : ∀ x, wipe ((wipe σ vs).set j (some x)) vs = wipe σ vs)
    (ht : ∀ i H1, i < n → Ex H H1 → EvT tt ((wipe σ vs).set j (some (.int (i : Nat)))) H1 (f i))
    (he : ∀ i H1 D l, i < n → Ex H H1 → H D = none → H1 D = some (.lst l) → f i = true → EvR te ((wipe σ vs).set j (some (.int (i : Nat)))) H1 (At D S) (gv i)) : EvN (tLc (iRng1 tl) (gName j) tt te vs) σ H S (((List.range n).filter f).map gv) := by
  intro H1 e Q q
  refine h H1 e _ fun H2 e2 => ⟨(n : Int), rfl, by omega, by omega, ?_⟩
  rw [show ((n : Int)).toNat = n from rfl]
  refine evn_it (R := fun _ v (i : Nat) => v = V.int (i : Nat)) (g := gName j) (tt := tt) (te := te) (σ := σ) (vs := vs) (S := S) (H0 := H2) (List.range n) f gv (fun σ2 H3 i => σ2 = (wipe σ vs).set j (some (.int (i : Nat)))) (walk_range (lo := 0) (n := n)) (by simp) hz (fun _ _ => True.intro) (fun i H3 x H4 a ha e3 hy => ?_) mS (fun x a H3 ha e3 hx Qs k => ?_)
    (fun σ2 H3 a ha e3 _ h1 => by rw [h1]; exact ht a H3 (List.mem_range.mp ha) ((e.trans e2).trans e3)) (fun σ2 H3 a D l ha e3 h0 hD _ h1 hf => by rw [h1]; exact he a H3 D l (List.mem_range.mp ha) ((e.trans e2).trans e3) (fresh_back (e.trans e2) h0) hD hf) (fun p' H3 xs' h1 h2 h3 h4 => q p' H3 xs' (fresh_back e2 h1) (e2.trans h2) h3 h4)
  · obtain ⟨rfl, hx⟩ := hy
    have hi : a = i := by
      have := List.getElem?_eq_some_iff.mp ha
      obtain ⟨h1, h2⟩ := this
      simp at h2
      exact h2.symm
    subst hi
    exact ⟨Ex.refl _, by rw [hx]; show V.int (0 + (a : Int)) = _; rw [Int.zero_add]⟩
  · subst hx
    exact k _ _ (Ex.refl _) (hw _) rfl
/-! ### implied clauses -/
def pairsOf (c : Clause) : List (Lit × Lit) := [(neg (litsOf c).1, (litsOf c).2), (neg (litsOf c).1, (litsOf c).1), (neg (litsOf c).2, (litsOf c).1), (neg (litsOf c).2, (litsOf c).2)]
noncomputable def impChainOf (S : Lit → List Lit) (c : Clause) : Option (List Lit) := pickOf ((pairsOf c).map fun p => chainOf S p.1 p.2)
def spImplying (P : Program) (w : World) (K : PySem.W.Frag) : Sp := fun vs H Q _ => ∃ vg vc U S c, vs = [vg, vc] ∧ GOk P w K U S H vg ∧ rCl K H vc c ∧ (litsOf c).1 ∈ U ∧ (litsOf c).2 ∈ U ∧ RetO (rLit K) (impChainOf S c) H Q
def spImplied (K : PySem.W.Frag) : Sp := fun vs H Q E => ∃ v g u c, vs = [v, u] ∧ rGram K H v g ∧ Good g ∧ rCl K H u c ∧ ClOk (names g) c ∧ (satB g = true → RetO (rLit K) (impChainOf (gS g) c) H Q) ∧ NoSat K g H E
noncomputable def counterOf (g : Gram) (c : Clause) : Option (List Str) := (acceptedOf g).find? fun s => !satisB [c] s
def spCounter (K : PySem.W.Frag) : Sp := fun vs H Q E => ∃ v g u c, vs = [v, u] ∧ rGram K H v g ∧ Good g ∧ rCl K H u c ∧ ClOk (names g) c ∧ (satB g = true → RetO rStr (counterOf g c) H Q) ∧ NoSat K g H E
def othersOf (cs : List Clause) (i : Nat) : List Clause := cs.take i ++ cs.drop (i + 1)
noncomputable def redB (cs : List Clause) (i : Nat) : Bool := match cs[i]? with
  | some c => (impChainOf (succOf (othersOf cs i)) c).isSome
  | none => false
def spIsRed (K : PySem.W.Frag) : Sp := fun vs H Q _ => ∃ vn vc ns cs i, vs = [vn, vc, .int (i : Nat)] ∧ rLst K rStr H vn ns ∧ rTpl K (rCl K) H vc cs ∧ ns.Nodup ∧ ns.length ≤ 6 ∧ cs.length ≤ 6 ∧ (∀ c ∈ cs, ClOk ns c) ∧ i < cs.length ∧ ∀ H', Ex H H' → Q (.bl (redB cs i)) H'
noncomputable def redundantOf (g : Gram) : List Int := ((List.range g.2.2.length).filter (redB g.2.2)).map Int.ofNat
def spRedundant (K : PySem.W.Frag) : Sp := fun vs H Q E => ∃ v g, vs = [v] ∧ rGram K H v g ∧ Good g ∧ (satB g = true → RetN rInt (redundantOf g) H Q) ∧ NoSat K g H E
section
variable {P : Program} {w : World} {K : PySem.W.Frag} {mg : Str → Option Value} {base : Heap}
theorem ok_implying_chain (T : Txt K mg) : Cal P w K mg base CX0 4 "implying_chain" (spImplying P w K) := by
  refine cal0 (N := ["graph", "clause", "left", "right", "pairs", "chains", "start", "goal", "candidates", "chain"]) T.D_implying_chain T.g_implying_chain sc_implying_chain (fun vs H Q E h => ?_) fun cdv A outer s H vs Q E hr h => ?_
  · obtain ⟨_, _, _, _, _, rfl, _⟩ := h; rfl
  · obtain ⟨vg, vc, U, S, c, rfl, hg, hc, hl, hr2, k⟩ := h
    obtain ⟨gg, dxg, dg, kg, rfl, hgi, _⟩ := id hg.gr
    refine ⟨_, (pss_cons (ps_asg (pe_c (ok_literals_of (P := P) (w := w) (base := base) T) hr (by decide) rfl pass0 (pa_cons (pv 1) pa_nil)) (pgT K rfl (pgs_cons (pg_name (i := 2) sc_implying_chain.nd rfl (Or.inl rfl)) (pgs_cons (pg_name (i := 3) sc_implying_chain.nd rfl (Or.inl rfl)) pgs_nil))))
      (pss_cons (ps_set (i := 4) sc_implying_chain.nd rfl (Or.inl rfl) (pe_lst (pa_cons (pe_tup (pa_cons (pe_c (ok_negate (P := P) (w := w) (base := base) T) hr (by decide) rfl pass0 (pa_cons (pv 2) pa_nil)) (pa_cons (pv 3) pa_nil))) (pa_cons (pe_tup (pa_cons (pe_c (ok_negate (P := P) (w := w) (base := base) T) hr (by decide) rfl pass0 (pa_cons (pv 2) pa_nil)) (pa_cons (pv 2) pa_nil))) (pa_cons (pe_tup (pa_cons (pe_c (ok_negate (P := P) (w := w) (base := base) T) hr (by decide) rfl pass0 (pa_cons (pv 3) pa_nil)) (pa_cons (pv 2) pa_nil))) (pa_cons (pe_tup (pa_cons (pe_c (ok_negate (P := P) (w := w) (base := base) T) hr (by decide) rfl pass0 (pa_cons (pv 3) pa_nil)) (pa_cons (pv 3) pa_nil))) pa_nil))))))
      (pss_cons (ps_setLc (i := 5) (own := [("start", 6), ("goal", 7)]) (g := gTup K 2 (gCons (gName 6) (gCons (gName 7) gNil))) (tt := tYes) rfl sc_implying_chain.nd rfl rfl (sw_true rfl rfl rfl (by decide +kernel)) (pi_list (pv 4)) (blkOk_by (N := ["graph", "clause", "left", "right", "pairs", "chains", "start", "goal", "candidates", "chain"]) (sc := defScope s_implying_chain) (by decide +kernel)) (fun _ _ _ _ _ => (pgT K rfl (pgs_cons (pg_name (i := 6) sc_implying_chain.nd rfl (Or.inl rfl)) (pgs_cons (pg_name (i := 7) sc_implying_chain.nd rfl (Or.inl rfl)) pgs_nil)))) (fun _ _ _ _ _ => pts_nil) (fun _ _ _ _ _ => (pe_mt (ok_ImplicationGraph_shortest_chain (P := P) (w := w) (base := base) T) hr (by decide) pass0 (pv 0) (pa_cons (pv 6) (pa_cons (pv 7) pa_nil)))))
      (pss_cons (ps_set (i := 8) sc_implying_chain.nd rfl (Or.inl rfl) (pe_callB (cr_sortD' K (rCand K H) encCand hr.units) rfl T.f_sorted bt_sorted (pa_cons (pe_lc (own := [("chain", 9)]) (g := gName 9) rfl sc_implying_chain.nd (pi_list (pv 5)) (blkOk_by (N := ["graph", "clause", "left", "right", "pairs", "chains", "start", "goal", "candidates", "chain"]) (sc := defScope s_implying_chain) (by decide +kernel)) (fun _ _ _ _ _ => (pg_name (i := 9) sc_implying_chain.nd rfl (Or.inl rfl))) (fun _ _ _ _ _ => (pts_one (pt_cmpR op_notN (pv 9) pe_non (nomark _)))) (fun _ _ _ _ _ => (pe_tup (pa_cons (pe_callB (lenSq K) rfl T.f_len bt_len (pa_cons (pv 9) pa_nil)) (pa_cons (pv 9) pa_nil))))) pa_nil)))
      (pss_one (ps_ret (pe_ifExp (pt_cmpR (op_neNil K hr.units) (pv 8) (pe_lst pa_nil) (nomark _)) (pe_ix (ixT K) (pe_ix (ixL K) (pv 8) pe_int (fun _ _ => rfl)) pe_int (fun _ _ => rfl)) pe_non))))))), ?_⟩
    refine ⟨_, rfl, _, c, rfl, hc, fun v H1 e1 rv => ?_⟩
    obtain ⟨pt, vl, vr, rfl, hpt, rl, rr⟩ := rv
    refine ⟨_, _, rfl, hpt, rfl, _, _, rfl, _, _, rfl, rfl, ?_⟩
    -- the pairs
    refine ⟨_, rfl, _, _, rfl, rl, fun n1 H2 e2 rn1 => ⟨_, rfl, by show 2 ≤ sizeLine; decide, fun p1 hp1 => ?_⟩⟩
    have x1 := e2.trans (Ex.new (o := .tup [n1, vr]) hp1)
    refine ⟨_, rfl, _, _, rfl, mLit _ _ _ _ x1 rl, fun n2 H3 e3 rn2 => ⟨_, rfl, by show 2 ≤ sizeLine; decide, fun p2 hp2 => ?_⟩⟩
    have x2 := e3.trans (Ex.new (o := .tup [n2, vl]) hp2)
    refine ⟨_, rfl, _, _, rfl, mLit _ _ _ _ (x1.trans x2) rr, fun n3 H4 e4 rn3 => ⟨_, rfl, by show 2 ≤ sizeLine; decide, fun p3 hp3 => ?_⟩⟩
    have x3 := e4.trans (Ex.new (o := .tup [n3, vl]) hp3)
    refine ⟨_, rfl, _, _, rfl, mLit _ _ _ _ ((x1.trans x2).trans x3) rr, fun n4 H5 e5 rn4 => ⟨_, rfl, by show 2 ≤ sizeLine; decide, fun p4 hp4 => ?_⟩⟩
    have x4 := e5.trans (Ex.new (o := .tup [n4, vr]) hp4)
    refine ⟨by show 4 ≤ sizeLine; decide, fun pp hpp => ?_⟩
    have x5 := Ex.new (o := .lst [V.ref p1, .ref p2, .ref p3, .ref p4]) hpp
    have y1 := (((x1.trans x2).trans x3).trans x4).trans x5
    have hpr : (upd (upd H5 p4 (.tup [n4, vr])) pp (.lst [V.ref p1, .ref p2, .ref p3, .ref p4])) pp = some (.lst [V.ref p1, .ref p2, .ref p3, .ref p4]) := upd_same
    have hls : LR (rT2 K (rLit K) (rLit K)) (upd (upd H5 p4 (.tup [n4, vr])) pp (.lst [V.ref p1, .ref p2, .ref p3, .ref p4])) [V.ref p1, .ref p2, .ref p3, .ref p4] (pairsOf c) := by
      have rl' := mLit _ _ _ _ y1 rl
      have rr' := mLit _ _ _ _ y1 rr
      refine .cons ⟨p1, _, _, rfl, st_of ((((x2.trans x3).trans x4).trans x5) _ _ upd_same), mLit _ _ _ _ ((Ex.new hp1).trans (((x2.trans x3).trans x4).trans x5)) rn1, rr'⟩ (.cons ⟨p2, _, _, rfl, st_of (((x3.trans x4).trans x5) _ _ upd_same), mLit _ _ _ _ ((Ex.new hp2).trans ((x3.trans x4).trans x5)) rn2, rl'⟩
        (.cons ⟨p3, _, _, rfl, st_of ((x4.trans x5) _ _ upd_same), mLit _ _ _ _ ((Ex.new hp3).trans (x4.trans x5)) rn3, rl'⟩ (.cons ⟨p4, _, _, rfl, st_of (x5 _ _ upd_same), mLit _ _ _ _ ((Ex.new hp4).trans x5) rn4, rr'⟩ .nil)))
    generalize upd (upd H5 p4 (.tup [n4, vr])) pp (.lst [V.ref p1, .ref p2, .ref p3, .ref p4]) = H6 at y1 hpr hls
    have e06 := e1.trans y1
    have inU : ∀ q ∈ pairsOf c, q.1 ∈ U ∧ q.2 ∈ U := fun q hq => by
      unfold pairsOf at hq
      simp at hq
      rcases hq with rfl | rfl | rfl | rfl
      · exact ⟨hg.ng _ hl, hr2⟩
      · exact ⟨hg.ng _ hl, hl⟩
      · exact ⟨hg.ng _ hr2, hl⟩
      · exact ⟨hg.ng _ hr2, hr2⟩
    have plen : (pairsOf c).length = 4 := rfl
    unfold impChainOf at k
    generalize pairsOf c = ps at hls inU plen k
    refine g_go ?_
    dsimp only
    refine q_asgN (R := rOpt (rNew H (rLit K))) (evn_lcL2 (K := K) (j1 := 6) (j2 := 7) (vs := [6, 7]) (R1 := rLit K) (R2 := rLit K) (S := rOpt (rNew H (rLit K))) (as := ps) (fun p => chainOf S p.1 p.2) (evr_var (mLst (mT2 mLit mLit)) rfl ⟨pp, _, rfl, sq_of hpr, hls⟩) (by omega) mLit mLit (mOpt (mNew mLit)) (fun _ _ => rfl) fun x y a H7 D l ha e7 hD0 hD hx hy => ?_) fun pc H7 ys hpc e7 h7 hl7 => ?_
    · intro H8 e8 Q q
      have e08 := (e06.trans e7).trans e8
      refine ⟨_, rfl, gg, dxg, _, rfl, e08 _ _ hgi, rfl, _, rfl, _, rfl, _, _, _, U, S, a.1, a.2, rfl, hg.gr.mono e08, hg.ok, hg.sy, hg.ng _ (inU a ha).2, (inU a ha).1, mLit _ _ _ _ e8 hx, mLit _ _ _ _ e8 hy, retO_at bLit (e8 _ _ hD) e08 q⟩
    · have hz : (ps.map fun p => chainOf S p.1 p.2).length ≤ 40000 := by
        rw [List.length_map]
        omega
      refine q_asgN (R := rCand K H) (ev_cands (H0 := H) (ic := 5) (j := 9) (cs := ps.map fun p => chainOf S p.1 p.2) rfl (sq_of h7) hl7 hz (fun _ => rfl) (fun _ => rfl)) fun p2 H8 zs hp2 e8 h8 hl8 => ?_
      refine ret_pick (H0 := H) (ci := 8) (p := p2) (ys := zs) (cs := ps.map fun p => chainOf S p.1 p.2) ?_ ?_ ?_ ?_
      · exact rfl
      · exact h8
      · exact hl8
      · exact retQ_of k ((e06.trans e7).trans e8)
theorem ok_implied (T : Txt K mg) : Cal P w K mg base (LX P w) 7 "implied" (spImplied K) := by
  refine calX (N := ["grammar", "clause"]) T.D_implied T.g_implied sc_implied (fun vs H Q E h => ?_) fun cdv A outer s H vs Q E hr h => ?_
  · obtain ⟨_, _, _, _, rfl, _⟩ := h; rfl
  · obtain ⟨v, g, u, c, rfl, hg, G, hc, hok, k, kn⟩ := h
    refine ⟨_, (pss_cons (ps_expr (pe_c (ok_check_grammar (P := P) (w := w) (base := base) T) hr (by decide) rfl pass0 (pa_cons (pv 0) pa_nil)))
      (pss_cons (ps_expr (pe_c (ok_check_clause (P := P) (w := w) (base := base) T) hr (by decide) rfl pass0 (pa_cons (pv 0) (pa_cons (pv 1) pa_nil))))
      (pss_cons (ps_expr (pe_c (ok_check_satisfiable (P := P) (w := w) (base := base) T) hr (by decide) rfl (passes_call (takes_of rfl rfl rfl rfl) fun _ _ _ _ h => h) (pa_cons (pv 0) pa_nil)))
      (pss_one (ps_ret (pe_c (ok_implying_chain (P := P) (w := w) (base := base) T) hr (by decide) rfl pass0 (pa_cons (pe_c (ok_graph_of (P := P) (w := w) (base := base) T) hr (by decide) rfl pass0 (pa_cons (pv 0) pa_nil)) (pa_cons (pv 1) pa_nil)))))))), ?_⟩
    have G2 := G.n2
    refine ⟨_, rfl, _, g, rfl, hg, G, fun H1 e1 => ?_⟩
    refine ⟨_, rfl, _, rfl, _, g, _, c, rfl, mGram _ _ _ _ e1 hg, by omega, mCl _ _ _ _ e1 hc, hok, fun H2 e2 => ?_⟩
    have e02 := e1.trans e2
    refine ⟨_, rfl, _, g, rfl, mGram _ _ _ _ e02 hg, G, fun hs H3 e3 => ?_, kn.mono e02⟩
    have e03 := e02.trans e3
    refine ⟨_, rfl, _, g, rfl, mGram _ _ _ _ e03 hg, G, fun gv H4 e4 hgr => ?_⟩
    have e04 := e03.trans e4
    have cl := lits_ok hok
    refine ⟨_, rfl, _, _, _, _, c, rfl, hgr, mCl _ _ _ _ e04 hc, cl.1, cl.2, ?_⟩
    have k2 := k hs
    cases ho : impChainOf (gS g) c with
    | none =>
      rw [ho] at k2
      exact fun H' e => k2 H' (e04.trans e)
    | some x =>
      rw [ho] at k2
      exact fun p' H' xs hp' e h' hl' => k2 p' H' xs (fresh_back e04 hp') (e04.trans e) h' hl'
theorem ok_counterexample (T : Txt K mg) : Cal P w K mg base (LX P w) 7 "counterexample" (spCounter K) := by
  refine calX (N := ["grammar", "clause", "names"]) T.D_counterexample T.g_counterexample sc_counterexample (fun vs H Q E h => ?_) fun cdv A outer s H vs Q E hr h => ?_
  · obtain ⟨_, _, _, _, rfl, _⟩ := h; rfl
  · obtain ⟨v, g, u, c, rfl, hg, G, hc, hok, k, kn⟩ := h
    refine ⟨_, (pss_cons (ps_expr (pe_c (ok_check_grammar (P := P) (w := w) (base := base) T) hr (by decide) rfl pass0 (pa_cons (pv 0) pa_nil)))
      (pss_cons (ps_expr (pe_c (ok_check_clause (P := P) (w := w) (base := base) T) hr (by decide) rfl pass0 (pa_cons (pv 0) (pa_cons (pv 1) pa_nil))))
      (pss_cons (ps_expr (pe_c (ok_check_satisfiable (P := P) (w := w) (base := base) T) hr (by decide) rfl (passes_call (takes_of rfl rfl rfl rfl) fun _ _ _ _ h => h) (pa_cons (pv 0) pa_nil)))
      (pss_cons (ps_for (passes_of rfl) rfl (pi_list (pe_c (ok_accepted_sets (P := P) (w := w) (base := base) T) hr (by decide) rfl pass0 (pa_cons (pv 0) pa_nil))) (pg_name (i := 2) sc_counterexample.nd rfl (Or.inl rfl)) (pss_one (ps_if (pt_not (pt_val (pe_c (ok_satisfies (P := P) (w := w) (base := base) T) hr (by decide) rfl pass0 (pa_cons (pe_tup (pa_cons (pv 1) pa_nil)) (pa_cons (pv 2) pa_nil))))) (pss_one (ps_ret (pv 2))) pss_nil)))
      (pss_one (ps_ret pe_non)))))), ?_⟩
    have G2 := G.n2
    refine ⟨_, rfl, _, g, rfl, hg, G, fun H1 e1 => ?_⟩
    refine ⟨_, rfl, _, rfl, _, g, _, c, rfl, mGram _ _ _ _ e1 hg, by omega, mCl _ _ _ _ e1 hc, hok, fun H2 e2 => ?_⟩
    have e02 := e1.trans e2
    refine ⟨_, rfl, _, g, rfl, mGram _ _ _ _ e02 hg, G, fun hs H3 e3 => ?_, kn.mono e02⟩
    have e03 := e02.trans e3
    have k2 := k hs
    refine ⟨_, rfl, _, g, rfl, mGram _ _ _ _ e03 hg, G, fun pa H4 ys hpa e4 h4 hl4 => ?_⟩
    have e04 := e03.trans e4
    unfold counterOf at k2
    generalize acceptedOf g = acc at hl4 k2
    refine ⟨pa, rfl, ⟨ys, sq_of h4⟩, for_list (K := K) (a := pa) (xs := ys) (fun (i : Nat) (σ' : L2.St) (H' : Hp) => ∃ o2, σ' = [some v, some u, o2] ∧ Ex H4 H' ∧ ∀ s ∈ acc.take i, satisB [c] s = true) ⟨_, rfl, Ex.refl _, fun _ h => by simp at h⟩ (fun i σ' H' _ ⟨_, _, e, _⟩ => sq_of (e _ _ h4)) ?_ ?_⟩
    · rintro i x σ' H5 hi ⟨o2, rfl, e5, hall⟩
      obtain ⟨s, hs5, rs⟩ := (hl4.mono (mNew mStr) e5).getV hi
      have tk : acc.take (i + 1) = acc.take i ++ [s] := by rw [List.take_succ, hs5]; rfl
      refine ⟨_, rfl, by show 1 ≤ sizeLine; decide, fun pt hpt => ⟨_, rfl, ?_⟩⟩
      have e6 := Ex.new (o := .tup [u]) hpt
      have e06 := (e04.trans e5).trans e6
      refine ⟨_, _, [c], s, rfl, ⟨pt, _, rfl, st_of upd_same, .cons (mCl _ _ _ _ e06 hc) .nil⟩, (mNew mStr _ _ _ _ e6 rs).lst, fun H7 e7 => ?_⟩
      cases hb : satisB [c] s with
      | true =>
        refine ⟨true, rfl, iteF ⟨_, rfl, (e5.trans e6).trans e7, fun d hd => ?_⟩⟩
        rw [tk] at hd
        rcases List.mem_append.mp hd with hd | hd
        · exact hall d hd
        · simp at hd
          subst hd
          exact hb
      | false =>
        refine ⟨false, rfl, iteT ⟨_, rfl, ?_⟩⟩
        obtain ⟨ps, ws, rfl, hps0, hps, hws⟩ := mNew mStr _ _ _ _ (e6.trans e7) rs
        have hf : acc.find? (fun s => !satisB [c] s) = some s := by
          rw [List.find?_eq_some_iff_getElem]
          have hlt := (List.getElem?_eq_some_iff.mp hs5).1
          refine ⟨by rw [hb]; rfl, i, hlt, (List.getElem?_eq_some_iff.mp hs5).2, fun j hj => ?_⟩
          have hjl : j < acc.length := by omega
          have hm : acc[j] ∈ acc.take i := by
            rw [List.mem_take_iff_getElem]
            exact ⟨j, by omega, rfl⟩
          rw [hall _ hm]
          rfl
        rw [hf] at k2
        exact k2 ps H7 ws (fresh_back e03 hps0) (e06.trans e7) hps hws
    · rintro σ' H5 ⟨o2, rfl, e5, hall⟩
      have hl : ys.length = acc.length := hl4.length
      rw [hl, List.take_length] at hall
      have hf : acc.find? (fun s => !satisB [c] s) = none := by
        rw [List.find?_eq_none]
        intro s hs5
        rw [hall s hs5]
        simp
      rw [hf] at k2
      exact k2 H5 (e04.trans e5)
theorem ok_is_redundant (T : Txt K mg) : Cal P w K mg base CX0 5 "is_redundant" (spIsRed K) := by
  refine cal0 (N := ["names", "clauses", "index", "others"]) T.D_is_redundant T.g_is_redundant sc_is_redundant (fun vs H Q E h => ?_) fun cdv A outer s H vs Q E hr h => ?_
  · obtain ⟨_, _, _, _, _, rfl, _⟩ := h; rfl
  · obtain ⟨vn, vc, ns, cs, i, rfl, hn, ⟨pc, zs, rfl, hpc, hcl⟩, nd, n6, c6, hok, hi, k⟩ := h
    refine ⟨_, (pss_cons (ps_set (i := 3) sc_is_redundant.nd rfl (Or.inl rfl) (pe_op op_catA (pe_slice sl_tupA (pv 1) po_none (po_some (pv 2))) (pe_slice sl_tupA (pv 1) (po_some (pe_op op_add (pv 2) pe_int)) po_none)))
      (pss_one (ps_ret (pe_cmpR op_notN (pe_c (ok_implying_chain (P := P) (w := w) (base := base) T) hr (by decide) rfl pass0 (pa_cons (pe_mk (mk_ImplicationGraph (P := P) (w := w) (base := base) T) hr (by decide) rfl pass0 (pa_cons (pv 0) (pa_cons (pv 3) pa_nil))) (pa_cons (pe_ix (ixT K) (pv 1) (pv 2) (fun _ _ => rfl)) pa_nil))) pe_non (nomark _))))), ?_⟩
    have zl := hcl.length
    obtain ⟨c, hci⟩ : ∃ c, cs[i]? = some c := ⟨cs[i], by simp [hi]⟩
    have rd : redB cs i = (impChainOf (succOf (othersOf cs i)) c).isSome := by unfold redB; rw [hci]
    rw [rd] at k
    refine ⟨_, rfl, _, rfl, _, rfl, ?_⟩
    refine sl_take (i := i) hpc fun p1 H1 e1 h1 => ?_
    refine ⟨_, rfl, _, rfl, _, _, rfl, rfl, _, rfl, ?_⟩
    dsimp only [tNoPart]
    rw [show ((i : Int) + 1) = ((i + 1 : Nat) : Int) from rfl]
    refine sl_drop (i := i + 1) (ex_t e1 hpc) (by omega) fun p2 H2 e2 h2 => ?_
    refine cat_any (ex_t e2 h1) h2 (by rw [List.length_take, List.length_drop]; exact sz_of (by omega)) fun p3 H3 e3 h3 => ?_
    have e03 := (e1.trans e2).trans e3
    have ho : rTpl K (rCl K) H3 (.ref p3) (othersOf cs i) := ⟨p3, _, rfl, h3, ((hcl.take i).append (hcl.drop (i + 1))).mono mCl e03⟩
    have hoc : ∀ d ∈ othersOf cs i, ClOk ns d := fun d hd => by
      unfold othersOf at hd
      rcases List.mem_append.mp hd with hd | hd
      · exact hok d (List.mem_of_mem_take hd)
      · exact hok d (List.mem_of_mem_drop hd)
    have hol : (othersOf cs i).length ≤ 6 := by
      unfold othersOf
      rw [List.length_append, List.length_take, List.length_drop]
      omega
    refine ⟨_, rfl, _, rfl, fun s dx hs hdx hne => ?_⟩
    have e4 : Ex H3 (upd H3 dx (.own s)) := Ex.new hdx
    have hs2 : (upd H3 dx (.own s)) s = none := by rw [upd_ne (Ne.symm hne)]; exact hs
    have e5 := e4.trans (Ex.new (o := .ins (He.ga K "ImplicationGraph") dx []) hs2)
    refine ⟨s, dx, _, _, ns, othersOf cs i, rfl, upd_same, mLst mStr _ _ _ _ (e03.trans e5) hn, mTpl mCl _ _ _ _ e5 ho, nd, n6, hol, hoc, fun H' eb hgr => ⟨rfl, ?_⟩⟩
    have e6 : Ex H3 H' := fun a o h => by
      have nas : a ≠ s := fun z => by rw [z, hs] at h; cases h
      exact eb a o nas (e5 _ _ h)
    have e06 := e03.trans e6
    obtain ⟨cv, hcv, rcv⟩ := (hcl.mono mCl e06).get hci
    have cl := lits_ok (hok c (List.mem_of_getElem? hci))
    refine ⟨_, rfl, _, rfl, _, _, _, _, rfl, rfl, ex_t e06 hpc, atI_nat hcv, _, _, _, _, c, rfl, gok_of hgr hoc n6 hol, rcv, cl.1, cl.2, ?_⟩
    refine retO_any fun uv H7 e7 hu => ⟨rfl, ?_⟩
    rw [hu.1, Bool.not_not]
    exact k H7 (e06.trans e7)
theorem ok_redundant_clauses (T : Txt K mg) : Cal P w K mg base (LX P w) 7 "redundant_clauses" (spRedundant K) := by
  refine calX (N := ["grammar", "names", "clauses", "index"]) T.D_redundant_clauses T.g_redundant_clauses sc_redundant_clauses (fun vs H Q E h => ?_) fun cdv A outer s H vs Q E hr h => ?_
  · obtain ⟨_, _, rfl, _⟩ := h; rfl
  · obtain ⟨v, g, rfl, hg, G, k, kn⟩ := h
    refine ⟨_, (pss_cons (ps_expr (pe_c (ok_check_grammar (P := P) (w := w) (base := base) T) hr (by decide) rfl pass0 (pa_cons (pv 0) pa_nil)))
      (pss_cons (ps_expr (pe_c (ok_check_satisfiable (P := P) (w := w) (base := base) T) hr (by decide) rfl (passes_call (takes_of rfl rfl rfl rfl) fun _ _ _ _ h => h) (pa_cons (pv 0) pa_nil)))
      (pss_cons (ps_asg (pe_tup (pa_cons (pe_c (ok_names_of (P := P) (w := w) (base := base) T) hr (by decide) rfl pass0 (pa_cons (pv 0) pa_nil)) (pa_cons (pe_ix (ixT K) (pv 0) pe_int (fun _ _ => rfl)) pa_nil))) (pgT K rfl (pgs_cons (pg_name (i := 1) sc_redundant_clauses.nd rfl (Or.inr rfl)) (pgs_cons (pg_name (i := 2) sc_redundant_clauses.nd rfl (Or.inr rfl)) pgs_nil))))
      (pss_one (ps_ret (pe_lc (own := [("index", 3)]) (g := gName 3) rfl sc_redundant_clauses.nd (pi_range1 rfl T.f_range (pa_cons (pe_callB (lenSq K) rfl T.f_len bt_len (pa_cons (pv 2) pa_nil)) pa_nil)) (blkOk_by (N := ["grammar", "names", "clauses", "index"]) (sc := defScope s_redundant_clauses) (by decide +kernel)) (fun _ _ _ _ _ => (pg_name (i := 3) sc_redundant_clauses.nd rfl (Or.inl rfl))) (fun _ _ _ _ _ => (pts_one (pt_val (pe_c (ok_is_redundant (P := P) (w := w) (base := base) T) hr (by decide) rfl pass0 (pa_cons (pv 1) (pa_cons (pv 2) (pa_cons (pv 3) pa_nil))))))) (fun _ _ _ _ _ => (pv 3)))))))), ?_⟩
    have G2 := G.n2
    refine ⟨_, rfl, _, g, rfl, hg, G, fun H1 e1 => ?_⟩
    refine ⟨_, rfl, _, g, rfl, mGram _ _ _ _ e1 hg, G, fun hs H2 e2 => ?_, kn.mono e1⟩
    have e02 := e1.trans e2
    refine ⟨_, rfl, _, g, rfl, mGram _ _ _ _ e02 hg, by omega, fun pn H3 ys hpn e3 h3 hl3 => ?_⟩
    obtain ⟨pg, y1, y2, y3, rfl, hpg, _, _, ⟨pz, zs, rfl, hpz, hzl⟩⟩ := mGram _ _ _ _ (e02.trans e3) hg
    refine ⟨_, rfl, _, _, _, _, rfl, rfl, hpg, atI_nat (j := 2) rfl, by show 2 ≤ sizeLine; decide, fun pt hpt => ?_⟩
    have e4 := Ex.new (o := .tup [V.ref pn, .ref pz]) hpt
    refine ⟨_, _, rfl, st_of upd_same, rfl, _, _, rfl, _, _, rfl, rfl, ?_⟩
    have h4 := e4 _ _ h3
    have hl4 := hl3.mono mStr e4
    have hpz4 := ex_t e4 hpz
    have hzl4 := hzl.mono mCl e4
    have e04 := (e02.trans e3).trans e4
    generalize upd H3 pt (.tup [V.ref pn, .ref pz]) = H4 at h4 hl4 hpz4 hzl4 e04
    have zl := hzl.length
    have c6 := G.c6
    dsimp only
    have k2 := k hs
    unfold redundantOf at k2
    refine s_retN (R := rInt) (as := ((List.range g.2.2.length).filter (redB g.2.2)).map Int.ofNat) (evn_lcN (S := rInt) (n := g.2.2.length) (redB g.2.2) Int.ofNat (fun H5 e5 Q q => ?_) (by omega) mInt (fun _ => rfl) (fun i H5 hi e5 => ?_) fun i H5 D l hi e5 hD0 hD _ => evr_at bInt hD ?_) fun p H5 us hp e5 h5 hl5 => k2 p H5 us (fresh_back e04 hp) (e04.trans e5) h5 hl5
    · refine ⟨_, rfl, pz, zs, rfl, .inr (ex_t e5 hpz4), ?_⟩
      rw [zl]
      exact q H5 (Ex.refl _)
    · intro H6 e6 Q q
      have e46 := e5.trans e6
      exact ⟨_, rfl, _, rfl, _, rfl, _, _, names g, g.2.2, i, rfl, ⟨pn, ys, rfl, sq_of (e46 _ _ h4), hl4.mono mStr e46⟩, ⟨pz, zs, rfl, ex_t e46 hpz4, hzl4.mono mCl e46⟩, G.names, by rw [names_len]; omega, c6, G.cls, hi, fun H7 e7 => ⟨_, rfl, q H7 e7⟩⟩
    · exact evr_var mInt rfl rfl
end
end K19

/-! ## K19Xs -/
set_option Elab.async false
set_option linter.all false
set_option maxRecDepth 100000
set_option maxHeartbeats 4000000
namespace K19
open PySem PySem.Spec PyProof.Rows L2 Evl
/-! ### sorted(set(xs)) of texts -/
noncomputable def sortU (ns : List Str) : List Str := sortedBy PyData.str (dedupS ns)
def tSortSet (K : PySem.W.Frag) (ta : TE) : TE := fun σ H Q => ta σ H fun x H1 => ∃ p ns, x = .ref p ∧ SqL K H1 p (ns.map V.str) ∧ ns.length ≤ 2 ∧ ∀ q, H1 q = none → Q (.ref q) (upd H1 q (.lst ((sortU ns).map V.str)))
def leS (a b : Str) : Bool := decide (a.cps.toList ≤ b.cps.toList)
theorem leS_trans (a b c : Str) (h1 : leS a b = true) (h2 : leS b c = true) : leS a c = true := by
  unfold leS at *
  rw [decide_eq_true_eq] at *
  exact List.le_trans h1 h2
theorem leS_total (a b : Str) : (leS a b || leS b a) = true := by
  unfold leS
  rw [Bool.or_eq_true, decide_eq_true_eq, decide_eq_true_eq]
  exact List.le_total _ _
theorem leS_anti {a b : Str} (h1 : leS a b = true) (h2 : leS b a = true) : a = b := by
  unfold leS at *
  rw [decide_eq_true_eq] at *
  have := List.le_antisymm h1 h2
  cases a
  cases b
  simp only [Str.mk.injEq]
  exact Array.toList_inj.mp this
theorem sortedBy_str (l : List Str) : sortedBy PyData.str l = l.mergeSort leS := by
  have h : PySem.W.dataLe false PyData.str = leS := PySem.W.dataLe_str (fun b : Str => b)
  unfold sortedBy
  rw [h]
theorem eq_of_rising : ∀ {l m : List Str}, l.Perm m → l.Pairwise (fun a b => leS a b = true) → m.Pairwise (fun a b => leS a b = true) → l = m
  | [], m, h, _, _ => (List.nil_perm.mp h).symm
  | x :: r, [], h, _, _ => absurd h.length_eq (by simp)
  | x :: r, y :: t, h, h1, h2 => by
    have hx := List.pairwise_cons.mp h1
    have hy := List.pairwise_cons.mp h2
    have e : x = y := by
      rcases List.mem_cons.mp (h.mem_iff.mp (List.mem_cons_self ..)) with e | e
      · exact e
      · rcases List.mem_cons.mp (h.mem_iff.mpr (List.mem_cons_self ..)) with e2 | e2
        · exact e2.symm
        · exact leS_anti (hx.1 y e2) (hy.1 x e)
    subst e
    rw [eq_of_rising (List.perm_cons x |>.mp h) hx.2 hy.2]
theorem sortedBy_str_perm {l m : List Str} (h : l.Perm m) : sortedBy PyData.str l = sortedBy PyData.str m := by
  rw [sortedBy_str, sortedBy_str]
  exact eq_of_rising ((List.mergeSort_perm l leS).trans (h.trans (List.mergeSort_perm m leS).symm)) (List.pairwise_mergeSort leS_trans leS_total l) (List.pairwise_mergeSort leS_trans leS_total m)
def keyV (v : Value) : Str := match v with | .str k _ => k | _ => Str.empty
theorem keyT_eq (e : Int × Value) : keyT e = keyV e.2 := by
  obtain ⟨h, v⟩ := e
  cases v <;> rfl
def rTx (u : Value) (z : Str) : Prop := ∃ v, RelV v u ∧ v = V.str z
theorem each_txs : ∀ {out : List Value}, (∀ v ∈ out, ∃ k u, v = Value.str k u) → PySem.W.EachIs rTx out (out.map keyV)
  | [], _ => .nil
  | v :: r, h => by
    obtain ⟨k, u, rfl⟩ := h v (List.mem_cons_self ..)
    exact .cons ⟨.str k, ⟨u, rfl⟩, rfl⟩ (each_txs fun w hw => h w (List.mem_cons_of_mem _ hw))
theorem txs_back : ∀ {us : List Value} {zs : List Str}, PySem.W.EachIs rTx us zs → Vals (zs.map V.str) us
  | _, _, .nil => .nil
  | _, _, .cons ⟨v, r1, e⟩ t => .cons (e ▸ r1) (txs_back t)
theorem tx_sorted {X : Cx} {pins : List (Addr × Obj)} {σ : L2.St} {H : Hp} {s : Shared} {a : Addr} {ns : List Str} {Q : V → Hp → Prop} (hc : X.calm = true) (hu : X.A.units + 64 < cLine) (I : Inv X pins σ H s) (J : TxR X.w s.heap a (dedupS ns))
    (q : ∀ p, H p = none → Q (.ref p) (upd H p (.lst ((sortU ns).map V.str)))) : wpAny (model X.prog X.w) X.A (call (.builtin "sorted") [.ref a]) (EP X pins σ Q) X.xe s := by
  obtain ⟨o, es, ep, t, ho, J⟩ := J
  refine Calls.call_function_entry PyProof.Rows.kind_sorted PyProof.Rows.plain_sorted PyProof.Rows.entry_sorted (PyProof.Rows.args_sorted1 _) ?_
  unfold Builtin.«sorted»
  refine wpAny_bind (m := checkCount "sorted" 1 1 _) (wpAny_pure ?_)
  refine wpAny_bind (collect_set (A := X.A.in1) (I.ok.hd hc) ⟨o, ho, J.ex.1, J.dat⟩ J.fit J.few J.ris J.led fun s2 out k2 hz g2 o2 pm => ?_)
  have shp : ∀ v ∈ out, ∃ k u, v = Value.str k u := fun v hv => by
    obtain ⟨e, he, rfl⟩ := List.mem_map.mp (pm.mem_iff.mp hv)
    obtain ⟨k, u, e1, _⟩ := J.ok e he
    exact ⟨k, u, e1⟩
  have pk : (out.map keyV).Perm (dedupS ns) := by
    refine List.Perm.trans ?_ J.pm
    have z := pm.map keyV
    rw [List.map_map] at z
    rw [show es.toList.map keyT = es.toList.map (keyV ∘ fun e => e.2) from List.map_congr_left fun e _ => keyT_eq e]
    exact z
  have hol : out.length ≤ sizeLine := by
    rw [pm.length_eq, List.length_map, Array.length_toList]
    exact fits_of_scanBound J.few
  refine wpAny_bind (wpAny_newList ?_ hol)
  have hoL : (s2.heap.push (seqObj "list" out.toArray 0)).get? s2.heap.objs.size = some (seqObj "list" out.toArray 0) := Heap.get?_push_size _ rfl
  have e1 := each_txs shp
  have er : PySem.W.EachIs (fun u z => ∃ as, Reads (s2.heap.push (seqObj "list" out.toArray 0)) u (PyData.str z) as ∧ s2.heap.objs.size ∉ as) out (out.map keyV) := e1.mono fun u z ⟨v, r1, r2⟩ => by
    subst r2
    obtain ⟨t, rfl⟩ := r1
    exact ⟨[], .str _ _, by simp⟩
  refine wpAny_bind (wpAny_holding (PySem.W.list_sort_data (s := { s2 with heap := s2.heap.push (seqObj "list" out.toArray 0) }) hoL e1 er (PySem.W.AllAlike.of fun b b' => by simp [PySem.W.alike]) (PySem.W.Sortable.others fun b => ⟨by simp, fun xs => by simp⟩) (by rw [List.length_map]; exact hol) (fun l _ => by
    show X.A.units + 1 + 1 + (PyData.str l).depth < cLine
    have : (PyData.str l).depth = 0 := by simp [PyData.depth]
    omega) fun ou2 ho2 eo => ?_))
  have eq : (out.map keyV).mergeSort (PySem.W.dataLe false PyData.str) = sortU ns := sortedBy_str_perm pk
  rw [eq] at eo
  obtain ⟨c, hat⟩ := PyProof.Rows.sortedHeap_at (vs := out) (out := List.toArray ou2) hoL
  have kp : ∀ b u, s.heap.get? b = some u → (sortedHeap (s2.heap.push (seqObj "list" out.toArray 0)) s2.heap.objs.size out (List.toArray ou2)).get? b = some u := fun b u e => by
    have z := k2 b u e
    have lb := Heap.lt_size z
    rw [PyProof.Rows.sortedHeap_old (Nat.ne_of_lt lb) (by rw [size_push']; exact Nat.lt_succ_of_lt lb)]
    exact Heap.get?_push_of_some _ z
  have hn : H s2.heap.objs.size = none := I.hok.fresh hz
  have hlen : ((sortU ns).map V.str).length ≤ sizeLine := by
    rw [← eq, List.length_map, List.length_mergeSort, List.length_map]
    exact hol
  refine wpAny_pure ⟨_, rfl, .ref s2.heap.objs.size, _, ?_, rfl, q _ hn⟩
  have Jn : Inv X pins σ (upd H s2.heap.objs.size (.lst ((sortU ns).map V.str))) { s with heap := sortedHeap (s2.heap.push (seqObj "list" out.toArray 0)) s2.heap.objs.size out (List.toArray ou2), gens := s2.gens, drawn := s2.drawn, toks := s2.toks } :=
    I.call (ch := []) (Un.laid kp hz hn) (I.hok.laid kp hz ⟨hlen, ou2, c, txs_back eo, hat⟩) (by rw [g2]; exact I.bare) (fun _ z => nomatch z)
  have es2 : ({ s with heap := sortedHeap (s2.heap.push (seqObj "list" out.toArray 0)) s2.heap.objs.size out (List.toArray ou2), gens := s2.gens, drawn := s2.drawn, toks := s2.toks } : Shared) = { s2 with heap := sortedHeap (s2.heap.push (seqObj "list" out.toArray 0)) s2.heap.objs.size out (List.toArray ou2) } := by
    cases s2
    cases s
    cases o2
    rfl
  rw [es2] at Jn
  exact Jn
theorem pe_sortSet {X : Cx} {a : Expr} {ta : TE} {p p2 q pos : Pos} (hc : X.calm = true) (hu : X.A.units + 64 < cLine) (hg : Gl X "sorted") (hm : X.mg "sorted" = none) (hg2 : Gl X "set") (hm2 : X.mg "set" = none) (ha : PE X a ta)
    (na : starEach [a] X.env = [(false, eval a X.env)] := by rfl) : PE X (.Call (.Name "sorted" p) [.Call (.Name "set" p2) [a] [] q] [] pos) (tSortSet X.K ta) := by
  refine ⟨fun pins s σ H Q I h => Call_ (ld_blt I hg hm bt_sorted (PyProof.Rows.callWith_builtin1 (PyProof.Rows.args_cons (Call_ (ld_blt I hg2 hm2 bt_set ?_)) rfl) rfl rfl))⟩
  refine PyProof.Rows.callWith_type1 (PyProof.Rows.args_cons (thn (ha.run pins s σ H _ I h) fun v s1 ⟨x, H1, I1, r1, q1⟩ => PyProof.Rows.args_nil ?_) na) na rfl
  obtain ⟨l, ns, rfl, hq, h2, q1⟩ := q1
  cases r1
  obtain ⟨its, r, pl, hz⟩ := I1.list hq
  refine tx_set_list (I1.ok.hd hc) pl.isList (by simpa using strsAre_of r) (fun _ => by unfold scanBound; omega) fun h' tk J kp => PyProof.Rows.args_nil ?_
  have I2 : Inv X pins σ H1 { s1 with heap := h', toks := tk } := I1.kept kp
  exact tx_sorted hc hu I2 J q1
end K19

/-! ## K19Y -/
set_option Elab.async false
set_option linter.all false
set_option maxRecDepth 100000
set_option maxHeartbeats 4000000
namespace K19
open PySem PySem.Spec PyProof.Rows L2 Evl



theorem sc_Conflict_init : FnScope ["self", "chain"] p_Conflict_init (defScope s_Conflict_init) := ⟨rfl, rfl, rfl, by decide +kernel, rfl, by decide +kernel, by decide +kernel⟩
theorem sc_conflict_chain : FnScope ["graph", "given", "starts", "name", "chains", "candidates", "chain"] p_conflict_chain (defScope s_conflict_chain) := ⟨rfl, rfl, rfl, by decide +kernel, rfl, by decide +kernel, by decide +kernel⟩
theorem sc_Completion_init : FnScope ["self", "grammar", "given", "chain"] p_Completion_init (defScope s_Completion_init) := ⟨rfl, rfl, rfl, by decide +kernel, rfl, by decide +kernel, by decide +kernel⟩
theorem sc_Completion_chain_for : FnScope ["self", "literal", "starts", "name"] p_Completion_chain_for (defScope s_Completion_chain_for) := ⟨rfl, rfl, rfl, by decide +kernel, rfl, by decide +kernel, by decide +kernel⟩
theorem sc_Completion_verdict : FnScope ["self", "name"] p_Completion_verdict (defScope s_Completion_verdict) := ⟨rfl, rfl, rfl, by decide +kernel, rfl, by decide +kernel, by decide +kernel⟩
/-! ### FlagclauseError.__init__(self, text) -/
theorem Txt.o4 {K : PySem.W.Frag} {mg : Str → Option Value} (T : Txt K mg) : OexC K (He.ga K "Conflict") ∧ PySem.W.findIn K (.ref (He.ga K "Conflict")) "__init__" = some (some (.ref (He.ma K (He.ga K "Conflict") "__init__"))) ∧ PySem.W.typeIn K (.ref (He.ma K (He.ga K "Conflict") "__init__")) = some (.type "function") ∧
    PySem.W.findIn K (.ref (He.ga K "Conflict")) "chain" = some none ∧ PySem.W.findCls K (.ref (He.ga K "FlagclauseError")) (.type "type") "__init__" = some (.val (.builtin "ValueError.__init__")) ∧ PySem.W.readsIn K (He.ga K "FlagclauseError") (.type "type") = true ∧
    PySem.W.specialIn K (.ref (He.ga K "FlagclauseError")) "__getattribute__" = some (some (.builtin "type.__getattribute__")) ∧ PySem.W.keepIn K (.ref (He.ga K "FlagclauseError")) = true := by
  have h := T.x4.2.2.2
  unfold exO at h
  simp only [Bool.and_eq_true, decide_eq_true_eq] at h
  obtain ⟨h1, h2, h3, h4, h5, h6, h7, h8⟩ := h
  exact ⟨oexB_ok h1, He.eqO_ok h2, h3, He.eqO_ok h4, fcB_ok h5, h6, He.eqO_ok h7, h8⟩
section
variable {X : Cx} {e : Expr} {es : List Expr} {ta : TA} {p1 p2 pos : Pos}
theorem pe_feinit {C : Addr} {x : Str} {pl : Sem Bool} (hg : Gl X x) (hm : X.mg x = some (.ref C)) (vV : PySem.W.findCls X.K (.ref C) (.type "type") "__init__" = some (.val (.builtin "ValueError.__init__"))) (hr : PySem.W.readsIn X.K C (.type "type") = true)
    (hs : PySem.W.specialIn X.K (.ref C) "__getattribute__" = some (some (.builtin "type.__getattribute__"))) (ha : PA X (e :: es) ta)
    (hc : eval (.Call (.Attribute (.Name x p1) "__init__" p2) (e :: es) [] pos) X.env = (do
      let ov ← eval (.Name x p1) X.env
      standAt p2.atName
      let (f, first) ← holding [ov] (getMethod ov "__init__" pl)
      callWith pos f first (backTo pos (starEach (e :: es) X.env)) (backToKw pos (keywordEach [] X.env))) := by rfl)
    (he : starEach (e :: es) X.env = (false, eval e X.env) :: starEach es X.env := by rfl) (hpl : (backTo pos (starEach es X.env)).any (·.1) = false := by rfl) (hdb : (x == ("__debug__" : Str)) = false := by decide) :
    PE X (.Call (.Attribute (.Name x p1) "__init__" p2) (e :: es) [] pos) (tVeI X.K ta) := by
  refine ⟨fun pins s σ H Q I h => ?_⟩
  refine PySem.W.methodCall_KW (ld_glob I hg hm ?_ hdb) hc
  refine PySem.W.method_cls I.kIn hs (PySem.W.cls_value I.kIn hr vV (by decide +kernel) ?_)
  show wpAny _ _ (callWith pos (Value.builtin "ValueError.__init__") [] (backTo pos (starEach (e :: es) X.env)) []) _ _ _
  refine PyProof.Rows.callWith_method1 (thn (ha.run pos pins _ σ H _ (I.tok _) h) fun us s1 ⟨vs, H1, I1, r1, a, C, ws, ev, hl, T, ea, q⟩ => ?_) he hpl
  subst ev
  cases r1 with
  | @cons _ u0 _ ur ra rw' =>
    obtain rfl : u0 = Value.ref a := ra
    have hlen : ur.length ≤ sizeLine := by
      rw [← Paired.length rw', sizeLine_eq]
      omega
    exact oinit_ok T I1 ea hlen fun s' J => ⟨.non, H1, J, rfl, q⟩
end
theorem dedup_mem : ∀ (l acc : List Str) (z : Str), z ∈ l.foldl (fun acc z => if z ∈ acc then acc else acc ++ [z]) acc ↔ z ∈ acc ∨ z ∈ l
  | [], acc, z => by simp
  | x :: r, acc, z => by
    rw [List.foldl_cons, dedup_mem r]
    split
    · rename_i h
      constructor
      · rintro (h1 | h1)
        · exact .inl h1
        · exact .inr (List.mem_cons_of_mem _ h1)
      · rintro (h1 | h1)
        · exact .inl h1
        · rcases List.mem_cons.mp h1 with rfl | h1
          · exact .inl h
          · exact .inr h1
    · simp only [List.mem_append, List.mem_cons, List.not_mem_nil, or_false]
      constructor
      · rintro ((h1 | h1) | h1)
        · exact .inl h1
        · exact .inr (.inl h1)
        · exact .inr (.inr h1)
      · rintro (h1 | h1 | h1)
        · exact .inl (.inl h1)
        · exact .inl (.inr h1)
        · exact .inr h1
theorem sortU_mem {ns : List Str} {z : Str} : z ∈ sortU ns ↔ z ∈ ns := by
  unfold sortU
  rw [sortedBy_mem]
  unfold dedupS
  rw [dedup_mem]
  simp
theorem sortU_len (ns : List Str) : (sortU ns).length ≤ ns.length := by
  unfold sortU
  rw [sortedBy_len]
  have := dedup_len ns []
  simpa [dedupS] using this
/-! ### conflicts -/
noncomputable def conflictOf (S : Lit → List Lit) (gv : List Str) : Option (List Lit) := pickOf (gv.map fun n => bestOf S (gv.map fun n => (n, true)) (n, false))
def spConfInit (K : PySem.W.Frag) : Sp := fun vs H Q _ => ∃ a v, vs = [.ref a, v] ∧ H a = some (exo a (He.ga K "Conflict") none) ∧ ∀ dx, H dx = none → dx ≠ a → Q .non (upd (upd H dx (exd dx [("chain", v)])) a (exo a (He.ga K "Conflict") (some dx)))
def spConfl (P : Program) (w : World) (K : PySem.W.Frag) : Sp := fun vs H Q _ => ∃ vg va U S gv, vs = [vg, va] ∧ GOk P w K U S H vg ∧ rLst K rStr H va gv ∧ (∀ z ∈ gv, ∀ t, (z, t) ∈ U) ∧ gv.length ≤ 40 ∧ RetO (rLit K) (conflictOf S gv) H Q
section
variable {P : Program} {w : World} {K : PySem.W.Frag} {mg : Str → Option Value} {base : Heap}
theorem fn_Conflict (T : Txt K mg) : ∃ fd, FnOk P w K mg base CX0 1 (He.ma K (He.ga K "Conflict") "__init__") fd p_Conflict_init (spConfInit K) ∧ Binds K fd p_Conflict_init [] := by
  obtain ⟨fd, F, b⟩ := T.D_Conflict_init
  refine ⟨fd, fn0 (N := ["self", "chain"]) F sc_Conflict_init (fun vs H Q E h => ?_) fun cdv A outer s H vs Q E hr h => ?_, b⟩
  · obtain ⟨_, _, rfl, _⟩ := h; rfl
  · obtain ⟨a, v, rfl, ha, k⟩ := h
    refine ⟨_, (pss_cons (ps_expr (pe_feinit rfl T.g_FlagclauseError T.o4.2.2.2.2.1 T.o4.2.2.2.2.2.1 T.o4.2.2.2.2.2.2.1 (pa_cons (pv 0) (pa_cons pe_str pa_nil))))
      (pss_one (ps_ost (pv 0) (pv 1)))), ?_⟩
    refine ⟨_, rfl, a, _, [.str "the given options are in conflict"], rfl, by show 1 ≤ 1000; decide, T.o4.1, ha, ?_⟩
    exact ⟨_, rfl, _, rfl, a, _, rfl, T.o4.1, T.o4.2.2.2.1, .inl ⟨ha, fun dx hd hne => k dx hd hne⟩⟩
theorem ok_conflict_chain (T : Txt K mg) : Cal P w K mg base CX0 5 "conflict_chain" (spConfl P w K) := by
  refine cal0 (N := ["graph", "given", "starts", "name", "chains", "candidates", "chain"]) T.D_conflict_chain T.g_conflict_chain sc_conflict_chain (fun vs H Q E h => ?_) fun cdv A outer s H vs Q E hr h => ?_
  · obtain ⟨_, _, _, _, _, rfl, _⟩ := h; rfl
  · obtain ⟨vg, va, U, S, gv, rfl, hg, ⟨pa, xs, rfl, hpa, hla⟩, hU, hl, k⟩ := h
    obtain ⟨gg, dxg, dg, kg, rfl, hgi, _⟩ := id hg.gr
    refine ⟨_, (pss_cons (ps_set (i := 2) sc_conflict_chain.nd rfl (Or.inr rfl) (pe_lc (own := [("name", 3)]) (g := gName 3) (tt := tYes) rfl sc_conflict_chain.nd (pi_list (pv 1)) (blkOk_by (N := ["graph", "given", "starts", "name", "chains", "candidates", "chain"]) (sc := defScope s_conflict_chain) (by decide +kernel)) (fun _ _ _ _ _ => (pg_name (i := 3) sc_conflict_chain.nd rfl (Or.inl rfl))) (fun _ _ _ _ _ => pts_nil) (fun _ _ _ _ _ => (pe_tup (pa_cons (pv 3) (pa_cons pe_bl pa_nil))))))
      (pss_cons (ps_setLc (i := 4) (own := [("name", 3)]) (g := gName 3) (tt := tYes) rfl sc_conflict_chain.nd rfl rfl (sw_true rfl rfl rfl (by decide +kernel)) (pi_list (pv 1)) (blkOk_by (N := ["graph", "given", "starts", "name", "chains", "candidates", "chain"]) (sc := defScope s_conflict_chain) (by decide +kernel)) (fun _ _ _ _ _ => (pg_name (i := 3) sc_conflict_chain.nd rfl (Or.inl rfl))) (fun _ _ _ _ _ => pts_nil) (fun _ _ _ _ _ => (pe_mt (ok_ImplicationGraph_best_chain (P := P) (w := w) (base := base) T) hr (by decide) pass0 (pv 0) (pa_cons (pv 2) (pa_cons (pe_tup (pa_cons (pv 3) (pa_cons pe_bl pa_nil))) pa_nil)))))
      (pss_cons (ps_set (i := 5) sc_conflict_chain.nd rfl (Or.inl rfl) (pe_callB (cr_sortD' K (rCand K H) encCand hr.units) rfl T.f_sorted bt_sorted (pa_cons (pe_lc (own := [("chain", 6)]) (g := gName 6) rfl sc_conflict_chain.nd (pi_list (pv 4)) (blkOk_by (N := ["graph", "given", "starts", "name", "chains", "candidates", "chain"]) (sc := defScope s_conflict_chain) (by decide +kernel)) (fun _ _ _ _ _ => (pg_name (i := 6) sc_conflict_chain.nd rfl (Or.inl rfl))) (fun _ _ _ _ _ => (pts_one (pt_cmpR op_notN (pv 6) pe_non (nomark _)))) (fun _ _ _ _ _ => (pe_tup (pa_cons (pe_callB (lenSq K) rfl T.f_len bt_len (pa_cons (pv 6) pa_nil)) (pa_cons (pv 6) pa_nil))))) pa_nil)))
      (pss_one (ps_ret (pe_ifExp (pt_cmpR (op_neNil K hr.units) (pv 5) (pe_lst pa_nil) (nomark _)) (pe_ix (ixT K) (pe_ix (ixL K) (pv 5) pe_int (fun _ _ => rfl)) pe_int (fun _ _ => rfl)) pe_non)))))), ?_⟩
    refine q_asgN (R := rLit K) (evn_lcL1 (K := K) (R := rStr) (S := rLit K) (as := gv) (fun n => (n, true)) (evr_var (mLst mStr) rfl ⟨pa, xs, rfl, hpa, hla⟩) (by omega) mStr mLit (fun _ => rfl) fun x n H1 D l hn e1 hD0 hD hx => evr_at bLit hD fun H2 e2 Q q => ?_) fun ps H1 ys hps e1 h1 hl1 => ?_
    · obtain rfl : x = .str n := hx
      exact ⟨_, rfl, by show 2 ≤ sizeLine; decide, fun p hp => q _ _ (Ex.new hp) ⟨p, _, _, rfl, st_of upd_same, rfl, rfl⟩⟩
    refine q_asgN (R := rOpt (rNew H (rLit K))) (evn_lcL1 (K := K) (R := rStr) (S := rOpt (rNew H (rLit K))) (as := gv) (fun n => bestOf S (gv.map fun n => (n, true)) (n, false)) (evr_var (mLst mStr) rfl ⟨pa, xs, rfl, ex_l e1 hpa, hla.mono mStr e1⟩) (by omega) mStr (mOpt (mNew mLit)) (fun _ => rfl) fun x n H2 D l hn e2 hD0 hD hx => ?_) fun pc H2 zs hpc e2 h2 hl2 => ?_
    · intro H3 e3 Q q
      obtain rfl : x = .str n := hx
      have e03 := (e1.trans e2).trans e3
      refine ⟨_, rfl, gg, dxg, _, rfl, e03 _ _ hgi, rfl, _, rfl, _, rfl, by show 2 ≤ sizeLine; decide, fun p hp => ?_⟩
      have e4 := Ex.new (o := .tup [V.str n, .bl false]) hp
      refine ⟨_, _, _, U, S, gv.map (fun n => (n, true)), (n, false), rfl, hg.mono (e03.trans e4), hU n hn false, fun s hs => ?_, by rw [List.length_map]; omega, ⟨ps, ys, rfl, sq_of (((e2.trans e3).trans e4) _ _ h1), hl1.mono mLit ((e2.trans e3).trans e4)⟩, ⟨p, _, _, rfl, st_of upd_same, rfl, rfl⟩, retO_at bLit ((e3.trans e4) _ _ hD) (e03.trans e4) fun v H5 e5 => q v H5 (e4.trans e5)⟩
      obtain ⟨z, hz, rfl⟩ := List.mem_map.mp hs
      exact hU z hz true
    · have hz : (gv.map fun n => bestOf S (gv.map fun n => (n, true)) (n, false)).length ≤ 40000 := by
        rw [List.length_map]
        omega
      refine q_asgN (R := rCand K H) (ev_cands (H0 := H) (ic := 4) (j := 6) (p := pc) (xs := zs) (cs := gv.map fun n => bestOf S (gv.map fun n => (n, true)) (n, false)) ?_ ?_ ?_ hz (fun _ => ?_) (fun _ => ?_)) fun p2 H3 us hp2 e3 h3 hl3 => ?_
      · exact rfl
      · exact sq_of h2
      · exact hl2
      · exact rfl
      · exact rfl
      refine ret_pick (H0 := H) (ci := 5) (p := p2) (ys := us) (cs := gv.map fun n => bestOf S (gv.map fun n => (n, true)) (n, false)) ?_ ?_ ?_ ?_
      · exact rfl
      · exact h3
      · exact hl3
      · exact retQ_of k ((e1.trans e2).trans e3)
end
/-! ### the completion -/
theorem rGr_updI {P : Program} {w : World} {K : PySem.W.Frag} {U : List Lit} {S : Lit → List Lit} {H : Hp} {v : V} {s C dx : Addr} {fs fs' : List (Str × V)} (h : rGr P w K U S H v) (hs : H s = some (.ins C dx fs)) (hf : fs.lookup ("successors" : Str) = none) : rGr P w K U S (upd H s (.ins C dx fs')) v := by
  obtain ⟨g, dg, d, kvs, rfl, h1, ⟨h2, h3⟩, h4, h5⟩ := h
  have ng : g ≠ s := fun z => by
    rw [z, hs] at h1
    have e := Option.some.inj h1
    injection e with _ _ e
    rw [e] at hf
    exact absurd hf (by simp [List.lookup])
  have h2' : LRd P w (upd H s (.ins C dx fs')) d kvs := by
    rcases h2 with h2 | ⟨o, h2⟩
    · exact .inl (by rw [upd_ne (fun z => by rw [z, hs] at h2; have e := Option.some.inj h2; unfold LD at e; cases e)]; exact h2)
    · exact .inr ⟨o, by rw [upd_ne (fun z => by rw [z, hs] at h2; cases h2)]; exact h2⟩
  exact ⟨g, dg, d, kvs, rfl, by rw [upd_ne ng]; exact h1, ⟨h2', h3.updO hs no_ins⟩, h4, fun e he => rLits_updO hs no_ins (h5 e he)⟩
def rComp (P : Program) (w : World) (K : PySem.W.Frag) (g : Gram) (gv : List Str) (H : Hp) (v : V) : Prop := ∃ s dx fs vg vl, v = .ref s ∧ H s = some (.ins (He.ga K "Completion") dx fs) ∧ fs.lookup ("graph" : Str) = some vg ∧ fs.lookup ("given" : Str) = some vl ∧ fs.lookup ("chain_for" : Str) = none ∧ fs.lookup ("verdict" : Str) = none ∧ GOk P w K (gU g) (gS g) H vg ∧ rLst K rStr H vl gv
theorem rComp.mono {P : Program} {w : World} {K : PySem.W.Frag} {g : Gram} {gv : List Str} {H H' : Hp} {v : V} (e : Ex H H') (h : rComp P w K g gv H v) : rComp P w K g gv H' v := by
  obtain ⟨s, dx, fs, vg, vl, h1, h2, h3, h4, h5, h6, h7, h8⟩ := h
  exact ⟨s, dx, fs, vg, vl, h1, e _ _ h2, h3, h4, h5, h6, h7.mono e, mLst mStr _ _ _ _ e h8⟩
/-- a Conflict is raised -/
def ConfB (K : PySem.W.Frag) (s : Addr) (c : List Lit) (H : Hp) (E : XK) : Prop := ∀ d H' vt, ExB s H H' → H' d = some (.xd [("chain", vt)]) → rTpl K (rLit K) H' vt c → E (.ref (He.ga K "Conflict")) (some d) H'
def spCompInit (P : Program) (w : World) (K : PySem.W.Frag) : Sp := fun vs H Q E => ∃ s dx v g u ns, vs = [.ref s, v, u] ∧ H s = some (.ins (He.ga K "Completion") dx []) ∧ rGram K H v g ∧ Good g ∧ rLst K rStr H u ns ∧ (∀ z ∈ ns, z ∈ names g) ∧ ns.length ≤ 2 ∧
  (conflictOf (gS g) (sortU ns) = none → ∀ H', ExB s H H' → rComp P w K g (sortU ns) H' (.ref s) → Q .non H') ∧ ∀ c, conflictOf (gS g) (sortU ns) = some c → ConfB K s c H E
section
variable {P : Program} {w : World} {K : PySem.W.Frag} {mg : Str → Option Value} {base : Heap}
theorem mk_Completion (T : Txt K mg) : Mak P w K mg base (LX P w) 6 "Completion" (He.ga K "Completion") (spCompInit P w K) := by
  refine makX (N := ["self", "grammar", "given", "chain"]) T.k_Completion T.g_Completion T.D_Completion_init sc_Completion_init (fun vs H Q E h => ?_) fun cdv A outer s H vs Q E hr h => ?_
  · obtain ⟨_, _, _, _, _, _, rfl, _⟩ := h; rfl
  · obtain ⟨sf, dx, v, g, u, ns, rfl, hsf, hg, G, hu, hns, n2, kq, ke⟩ := h
    obtain ⟨fdC, FC, bC⟩ := fn_Conflict (P := P) (w := w) (base := base) T
    refine ⟨_, pss_cons (ps_fld (pv 0) (pe_c (ok_graph_of (P := P) (w := w) (base := base) T) hr (by decide) rfl pass0 (pa_cons (pv 1) pa_nil)) rfl)
      (pss_cons (ps_fld (pv 0) (pe_sortSet rfl hr.units rfl T.f_sorted rfl T.f_set (pv 2)) rfl)
      (pss_cons (ps_set (i := 3) sc_Completion_init.nd rfl (Or.inl rfl) (pe_c (ok_conflict_chain (P := P) (w := w) (base := base) T) hr (by decide) rfl pass0 (pa_cons (pe_fld (pv 0) rfl) (pa_cons (pe_fld (pv 0) rfl) pa_nil))))
      (pss_one (ps_if (pt_cmpR op_notN (pv 3) pe_non (nomark _)) (pss_one (ps_raise rfl (takes_of rfl rfl rfl rfl) (pmk_oex T.o4.1 T.o4.2.1 T.o4.2.2.1 FC (hr.mono (by decide)) bC .nil pass0 rfl T.g_Conflict (pa_cons (pe_tupleOf rfl T.f_tuple (pv 3)) pa_nil)))) pss_nil)))), ?_⟩
    have G2 := G.n2
    refine ⟨_, rfl, _, g, rfl, hg, G, fun gv H1 e1 hgr => ?_⟩
    have h1s := e1 _ _ hsf
    refine ⟨_, rfl, sf, _, dx, [], rfl, h1s, T.c_Completion, T.n_Completion_graph, by decide, ?_⟩
    have h2s : (upd H1 sf (.ins (He.ga K "Completion") dx (putF "graph" gv []))) sf = some (.ins (He.ga K "Completion") dx [("graph", gv)]) := upd_same
    have gr2 : GOk P w K (gU g) (gS g) (upd H1 sf (.ins (He.ga K "Completion") dx (putF "graph" gv []))) gv := ⟨rGr_updI hgr.gr h1s rfl, hgr.ok, hgr.sy, hgr.ng⟩
    have eb2 : ExB sf H (upd H1 sf (.ins (He.ga K "Completion") dx (putF "graph" gv []))) := fun a o ha h => by rw [upd_ne ha]; exact e1 _ _ h
    have u2 : rLst K rStr (upd H1 sf (.ins (He.ga K "Completion") dx (putF "graph" gv []))) u ns := by
      obtain ⟨p, xs, hp, hq, hl⟩ := mLst mStr _ _ _ _ e1 hu
      exact ⟨p, xs, hp, sql_updO h1s no_ins hq, hl⟩
    generalize upd H1 sf (.ins (He.ga K "Completion") dx (putF "graph" gv [])) = H2 at h2s gr2 eb2 u2
    obtain ⟨pu, xu, rfl, hpu, hul⟩ := u2
    have := lr_strs hul
    subst this
    refine ⟨_, rfl, pu, ns, rfl, hpu, n2, fun q hq => ?_⟩
    have e3 : Ex H2 (upd H2 q (.lst ((sortU ns).map V.str))) := Ex.new hq
    have h3q : (upd H2 q (.lst ((sortU ns).map V.str))) q = some (.lst ((sortU ns).map V.str)) := upd_same
    have gr3 := gr2.mono e3
    have h3s := e3 _ _ h2s
    have eb3 : ExB sf H (upd H2 q (.lst ((sortU ns).map V.str))) := fun a o ha h => e3 _ _ (eb2 a o ha h)
    generalize upd H2 q (.lst ((sortU ns).map V.str)) = H3 at h3q gr3 h3s eb3
    refine ⟨_, rfl, sf, _, dx, _, rfl, h3s, T.c_Completion, T.n_Completion_given, by show 1 < 1000; decide, ?_⟩
    have h4s : (upd H3 sf (.ins (He.ga K "Completion") dx (putF "given" (.ref q) [("graph", gv)]))) sf = some (.ins (He.ga K "Completion") dx [("graph", gv), ("given", .ref q)]) := upd_same
    have gr4 : GOk P w K (gU g) (gS g) (upd H3 sf (.ins (He.ga K "Completion") dx (putF "given" (.ref q) [("graph", gv)]))) gv := ⟨rGr_updI gr3.gr h3s rfl, gr3.ok, gr3.sy, gr3.ng⟩
    have eb4 : ExB sf H (upd H3 sf (.ins (He.ga K "Completion") dx (putF "given" (.ref q) [("graph", gv)]))) := fun a o ha h => by rw [upd_ne ha]; exact eb3 a o ha h
    have nqs : q ≠ sf := fun z => by rw [z, h3s] at h3q; cases h3q
    have h4q : (upd H3 sf (.ins (He.ga K "Completion") dx (putF "given" (.ref q) [("graph", gv)]))) q = some (.lst ((sortU ns).map V.str)) := by rw [upd_ne nqs]; exact h3q
    generalize upd H3 sf (.ins (He.ga K "Completion") dx (putF "given" (.ref q) [("graph", gv)])) = H4 at h4s gr4 eb4 h4q
    have gvl : rLst K rStr H4 (.ref q) (sortU ns) := ⟨q, _, rfl, sq_of h4q, lr_strOf _⟩
    refine ⟨_, rfl, sf, _, dx, _, _, rfl, h4s, T.c_Completion, T.n_Completion_graph, rfl, _, rfl, sf, _, dx, _, _, rfl, h4s, T.c_Completion, T.n_Completion_given, rfl, ?_⟩
    refine ⟨gv, .ref q, _, gS g, sortU ns, rfl, gr4, gvl, fun z hz t => mem_litsN.mpr (hns z (sortU_mem.mp hz)), by have := sortU_len ns; omega, ?_⟩
    cases hco : conflictOf (gS g) (sortU ns) with
    | none =>
      intro H5 e5
      refine ⟨_, rfl, rfl, false, rfl, iteF ?_⟩
      exact kq hco H5 (fun a o ha h => e5 _ _ (eb4 a o ha h)) ⟨sf, dx, _, gv, .ref q, rfl, e5 _ _ h4s, rfl, rfl, rfl, rfl, gr4.mono e5, mLst mStr _ _ _ _ e5 gvl⟩
    | some c =>
      intro pc H5 xs hpc e5 h5 hl5
      refine ⟨_, rfl, rfl, true, rfl, iteT ?_⟩
      refine ⟨_, rfl, .inl ⟨pc, xs, rfl, sq_of h5, fun pt hpt => ⟨by show 1 ≤ 1000; decide, fun a ha => ?_⟩⟩⟩
      have e6 := Ex.new (o := .tup xs) hpt
      refine ⟨a, .ref pt, rfl, upd_same, fun d hd hne => ⟨rfl, d, [("chain", .ref pt)], upd_same, by rw [upd_ne hne]; exact upd_same, ?_, ?_⟩⟩
      · rw [upd_ne hne] at hd
        exact hd
      · have hd0 : (upd H5 pt (.tup xs)) d = none := by rw [upd_ne hne] at hd; exact hd
        have e7 : Ex (upd H5 pt (.tup xs)) (upd (del (upd (upd (upd (upd H5 pt (.tup xs)) a (exo a (He.ga K "Conflict") none)) d (exd d [("chain", .ref pt)])) a (exo a (He.ga K "Conflict") (some d))) a) d (.xd [("chain", .ref pt)])) := fun b o hb => by
          have nba : b ≠ a := fun z => by rw [z, ha] at hb; cases hb
          have nbd : b ≠ d := fun z => by rw [z, hd0] at hb; cases hb
          rw [upd_ne nbd, del_ne nba, upd_ne nba, upd_ne nbd, upd_ne nba]
          exact hb
        refine ke c hco d _ (.ref pt) (fun b o nb h => e7 _ _ (e6 _ _ (e5 _ _ (eb4 b o nb h)))) upd_same ⟨pt, xs, rfl, ex_t e7 (st_of upd_same), hl5.mono mLit (e6.trans e7)⟩
end
end K19

/-! ## K19Z -/
set_option Elab.async false
set_option linter.all false
set_option maxRecDepth 100000
set_option maxHeartbeats 4000000
namespace K19
open PySem PySem.Spec PyProof.Rows L2 Evl






theorem sc_verdicts : FnScope ["grammar", "given", "completion", "name"] p_verdicts (defScope s_verdicts) := ⟨rfl, rfl, rfl, by decide +kernel, rfl, by decide +kernel, by decide +kernel⟩
theorem sc_completion_of : FnScope ["grammar", "given"] p_completion_of (defScope s_completion_of) := ⟨rfl, rfl, rfl, by decide +kernel, rfl, by decide +kernel, by decide +kernel⟩
theorem sc_explain_verdict : FnScope ["grammar", "given", "name", "completion", "verdict"] p_explain_verdict (defScope s_explain_verdict) := ⟨rfl, rfl, rfl, by decide +kernel, rfl, by decide +kernel, by decide +kernel⟩
theorem sc_complete : FnScope ["grammar", "given", "completion", "names", "name"] p_complete (defScope s_complete) := ⟨rfl, rfl, rfl, by decide +kernel, rfl, by decide +kernel, by decide +kernel⟩
theorem seq_go {t u : TS} {D : Ends} {σ : L2.St} {H : Hp} (h : t { D with nx := u D } σ H) : tSeq t u D σ H := h
theorem asg_op {r : R2} {ta tb : TE} {g : TG} {D : Ends} {σ : L2.St} {H : Hp} (h : ta σ H fun x H1 => tb σ H1 fun y H2 => r x y H2 fun z H3 => g z σ H3 D.nx) : tAsg (tOp r ta tb) g D σ H := h
noncomputable def chainFor (g : Gram) (gv : List Str) (l : Lit) : Option (List Lit) := bestOf (gS g) (gv.map (fun n => (n, true)) ++ [neg l]) l
noncomputable def verdictOf (g : Gram) (gv : List Str) (n : Str) : Str := if n ∈ gv then "given" else if (chainFor g gv (n, true)).isSome then "required" else if (chainFor g gv (n, false)).isSome then "impossible" else "possible"
def GvOk (g : Gram) (gv : List Str) : Prop := (∀ z ∈ gv, z ∈ names g) ∧ gv.length ≤ 6
def spChainFor (P : Program) (w : World) (K : PySem.W.Frag) : Sp := fun vs H Q _ => ∃ vc vl g gv l, vs = [vc, vl] ∧ rComp P w K g gv H vc ∧ GvOk g gv ∧ rLit K H vl l ∧ l.1 ∈ names g ∧ RetO (rLit K) (chainFor g gv l) H Q
def spVerdict (P : Program) (w : World) (K : PySem.W.Frag) : Sp := fun vs H Q _ => ∃ vc g gv n, vs = [vc, .str n] ∧ rComp P w K g gv H vc ∧ GvOk g gv ∧ n ∈ names g ∧ ∀ H', Ex H H' → Q (.str (verdictOf g gv n)) H'
/-- Conflict, raised out of a call -/
def ConfE (K : PySem.W.Frag) (c : List Lit) (H : Hp) (E : XK) : Prop := ∀ d H' vt, Ex H H' → H' d = some (.xd [("chain", vt)]) → rTpl K (rLit K) H' vt c → E (.ref (He.ga K "Conflict")) (some d) H'
/-- the errors of the completion -/
structure CErr (K : PySem.W.Frag) (g : Gram) (ns : List Str) (H : Hp) (E : XK) : Prop where
  sat : NoSat K g H E
  conf : satB g = true → ∀ c, conflictOf (gS g) (sortU ns) = some c → ConfE K c H E
theorem CErr.mono {K : PySem.W.Frag} {g : Gram} {ns : List Str} {H H' : Hp} {E : XK} (h : CErr K g ns H E) (e : Ex H H') : CErr K g ns H' E := ⟨h.sat.mono e, fun s c hc d H2 vt e2 => h.conf s c hc d H2 vt (e.trans e2)⟩
/-- the completion is made -/
def CGo (g : Gram) (ns : List Str) : Prop := satB g = true ∧ conflictOf (gS g) (sortU ns) = none
def spCompletionOf (P : Program) (w : World) (K : PySem.W.Frag) : Sp := fun vs H Q E => ∃ v g u ns, vs = [v, u] ∧ rGram K H v g ∧ Good g ∧ rLst K rStr H u ns ∧ (∀ z ∈ ns, z ∈ names g) ∧ ns.length ≤ 2 ∧ (CGo g ns → ∀ vc H', Ex H H' → rComp P w K g (sortU ns) H' vc → Q vc H') ∧ CErr K g ns H E
noncomputable def explainOf (g : Gram) (gv : List Str) (n : Str) : Option (List Lit) := if verdictOf g gv n ∈ (["given", "possible"] : List Str) then none else chainFor g gv (n, decide (verdictOf g gv n = "required"))
def spExplain (K : PySem.W.Frag) : Sp := fun vs H Q E => ∃ v g u ns n, vs = [v, u, .str n] ∧ rGram K H v g ∧ Good g ∧ rLst K rStr H u ns ∧ (∀ z ∈ ns, z ∈ names g) ∧ ns.length ≤ 2 ∧ n ∈ names g ∧ (CGo g ns → RetO (rLit K) (explainOf g (sortU ns) n) H Q) ∧ CErr K g ns H E
noncomputable def completeOf (g : Gram) (gv : List Str) : Option (List Str) := (acceptedOf g).find? fun s => gv.all fun z => decide (z ∈ s)
def spComplete (K : PySem.W.Frag) : Sp := fun vs H Q E => ∃ v g u ns, vs = [v, u] ∧ rGram K H v g ∧ Good g ∧ rLst K rStr H u ns ∧ (∀ z ∈ ns, z ∈ names g) ∧ ns.length ≤ 2 ∧ (CGo g ns → RetO rStr (completeOf g (sortU ns)) H Q) ∧ CErr K g ns H E
noncomputable def verdKv (g : Gram) (gv : List Str) (ns : List Str) : List (Key × V) := ns.map fun n => (Sum.inr n, V.str (verdictOf g gv n))
def RetK (kvs : List (Key × V)) (H : Hp) (Q : VK) : Prop := ∀ d H', H d = none → Ex H H' → H' d = some (.dK kvs) → Q (.ref d) H'
def spVerdicts (K : PySem.W.Frag) : Sp := fun vs H Q E => ∃ v g u ns, vs = [v, u] ∧ rGram K H v g ∧ Good g ∧ rLst K rStr H u ns ∧ (∀ z ∈ ns, z ∈ names g) ∧ ns.length ≤ 2 ∧ (CGo g ns → RetK (verdKv g (sortU ns) (names g)) H Q) ∧ CErr K g ns H E
theorem gvOk_sortU {g : Gram} {ns : List Str} (h : ∀ z ∈ ns, z ∈ names g) (h2 : ns.length ≤ 2) : GvOk g (sortU ns) := ⟨fun z hz => h z (sortU_mem.mp hz), by have := sortU_len ns; omega⟩
section
variable {P : Program} {w : World} {K : PySem.W.Frag} {mg : Str → Option Value} {base : Heap}
theorem ok_Completion_chain_for (T : Txt K mg) : Met P w K mg base CX0 5 (He.ga K "Completion") "chain_for" (spChainFor P w K) := by
  refine met0 (N := ["self", "literal", "starts", "name"]) T.c_Completion T.m_Completion_chain_for T.D_Completion_chain_for sc_Completion_chain_for (fun vs H Q E h => ?_) fun cdv A outer s H vs Q E hr h => ?_
  · obtain ⟨_, _, _, _, _, rfl, _⟩ := h; rfl
  · obtain ⟨vc, vl, g, gv, l, rfl, ⟨sf, dx, fs, vg, vgl, rfl, hsf, l1, l2, l3, l4, hgr, ⟨pg, xs, rfl, hpg, hgl⟩⟩, ⟨gok, g6⟩, rl, hl, k⟩ := h
    refine ⟨_, (pss_cons (ps_set (i := 2) sc_Completion_chain_for.nd rfl (Or.inl rfl) (pe_op op_cat (pe_lc (own := [("name", 3)]) (g := gName 3) (tt := tYes) rfl sc_Completion_chain_for.nd (pi_list (pe_fld (pv 0) rfl)) (blkOk_by (N := ["self", "literal", "starts", "name"]) (sc := defScope s_Completion_chain_for) (by decide +kernel)) (fun _ _ _ _ _ => (pg_name (i := 3) sc_Completion_chain_for.nd rfl (Or.inl rfl))) (fun _ _ _ _ _ => pts_nil) (fun _ _ _ _ _ => (pe_tup (pa_cons (pv 3) (pa_cons pe_bl pa_nil))))) (pe_lst (pa_cons (pe_c (ok_negate (P := P) (w := w) (base := base) T) hr (by decide) rfl pass0 (pa_cons (pv 1) pa_nil)) pa_nil))))
      (pss_one (ps_ret (pe_mt (ok_ImplicationGraph_best_chain (P := P) (w := w) (base := base) T) hr (by decide) pass0 (pe_fld (pv 0) rfl) (pa_cons (pv 2) (pa_cons (pv 1) pa_nil)))))), ?_⟩
    obtain ⟨gg, dxg, dg, kg, rfl, hgi, _⟩ := id hgr.gr
    refine seq_go (asg_op ?_)
    refine evn_go (R := rLit K) (evn_lcL1 (K := K) (R := rStr) (S := rLit K) (as := gv) (fun n => (n, true)) (fun H1 e1 Q q => ?_) (by omega) mStr mLit (fun _ => rfl) fun x n H1 D l hn e1 hD0 hD hx => evr_at bLit hD fun H2 e2 Q q => ?_) fun ps H1 ys hps e1 h1 hl1 => ?_
    · exact ⟨_, rfl, sf, _, dx, fs, _, rfl, e1 _ _ hsf, T.c_Completion, T.n_Completion_given, l2, q _ H1 (Ex.refl _) ⟨pg, xs, rfl, ex_l e1 hpg, hgl.mono mStr e1⟩⟩
    · obtain rfl : x = .str n := hx
      exact ⟨_, rfl, by show 2 ≤ sizeLine; decide, fun p hp => q _ _ (Ex.new hp) ⟨p, _, _, rfl, st_of upd_same, rfl, rfl⟩⟩
    · refine ⟨_, rfl, _, l, rfl, mLit _ _ _ _ e1 rl, fun nv H2 e2 rn => ⟨by show 1 ≤ sizeLine; decide, fun q hq => ?_⟩⟩
      have e3 := Ex.new (o := .lst [nv]) hq
      have yl := hl1.length
      rw [List.length_map] at yl
      refine ⟨ps, q, ys, [nv], rfl, rfl, (e2.trans e3) _ _ h1, upd_same, sz_of (by simp; omega), fun pc hpc => ?_⟩
      have e4 := Ex.new (o := .lst (ys ++ [nv])) hpc
      have e24 := (e2.trans e3).trans e4
      have e04 := e1.trans e24
      refine ⟨_, rfl, sf, _, dx, fs, _, rfl, e04 _ _ hsf, T.c_Completion, T.n_Completion_graph, l1, gg, dxg, _, rfl, e04 _ _ hgi, rfl, _, rfl, _, rfl, ?_⟩
      refine ⟨_, _, _, _, gS g, gv.map (fun n => (n, true)) ++ [neg l], l, rfl, hgr.mono e04, mem_litsN.mpr hl, fun s hs => ?_, by simp; omega, ⟨pc, _, rfl, sq_of upd_same, (hl1.mono mLit e24).append (.cons (mLit _ _ _ _ (e3.trans e4) rn) .nil)⟩, mLit _ _ _ _ e04 rl, ?_⟩
      · rcases List.mem_append.mp hs with hs | hs
        · obtain ⟨z, hz, rfl⟩ := List.mem_map.mp hs
          exact mem_litsN.mpr (gok z hz)
        · simp at hs
          subst hs
          exact neg_in (mem_litsN.mpr hl)
      · unfold chainFor at k
        cases ho : bestOf (gS g) (gv.map (fun n => (n, true)) ++ [neg l]) l with
        | none =>
          rw [ho] at k
          exact fun H' e => k H' (e04.trans e)
        | some x =>
          rw [ho] at k
          exact fun p' H' xs hp' e h' hl' => k p' H' xs (fresh_back e04 hp') (e04.trans e) h' hl'
theorem ok_Completion_verdict (T : Txt K mg) : Met P w K mg base CX0 6 (He.ga K "Completion") "verdict" (spVerdict P w K) := by
  refine met0 (N := ["self", "name"]) T.c_Completion T.m_Completion_verdict T.D_Completion_verdict sc_Completion_verdict (fun vs H Q E h => ?_) fun cdv A outer s H vs Q E hr h => ?_
  · obtain ⟨_, _, _, _, rfl, _⟩ := h; rfl
  · obtain ⟨vc, g, gv, n, rfl, hc, go, hn, k⟩ := h
    obtain ⟨sf, dx, fs, vg, vgl, rfl, hsf, l1, l2, l3, l4, hgr, ⟨pg, xs, rfl, hpg, hgl⟩⟩ := id hc
    refine ⟨_, (pss_cons (ps_if (pt_cmpR (inSq K) (pv 1) (pe_fld (pv 0) rfl) rfl) (pss_one (ps_ret pe_str)) pss_nil)
      (pss_cons (ps_if (pt_cmpR op_notN (pe_mt (ok_Completion_chain_for (P := P) (w := w) (base := base) T) hr (by decide) pass0 (pv 0) (pa_cons (pe_tup (pa_cons (pv 1) (pa_cons pe_bl pa_nil))) pa_nil)) pe_non (nomark _)) (pss_one (ps_ret pe_str)) pss_nil)
      (pss_one (ps_ret (pe_ifExp (pt_cmpR op_notN (pe_mt (ok_Completion_chain_for (P := P) (w := w) (base := base) T) hr (by decide) pass0 (pv 0) (pa_cons (pe_tup (pa_cons (pv 1) (pa_cons pe_bl pa_nil))) pa_nil)) pe_non (nomark _)) pe_str pe_str))))), ?_⟩
    have hx := lr_strs hgl
    subst hx
    unfold verdictOf at k
    refine ⟨_, rfl, _, rfl, sf, _, dx, fs, _, rfl, hsf, T.c_Completion, T.n_Completion_given, l2, pg, _, rfl, .inl hpg, rfl, flat_strs _, ?_⟩
    show ∃ b, V.bl (inV (.str n) (gv.map V.str)) = V.bl b ∧ _
    rw [inV_strs]
    by_cases hin : n ∈ gv
    · rw [if_pos hin] at k
      exact ⟨true, blT hin, iteT (k H (Ex.refl _))⟩
    · rw [if_neg hin] at k
      refine ⟨false, blF hin, iteF ?_⟩
      refine ⟨_, rfl, sf, dx, fs, rfl, hsf, l3, _, rfl, by show 2 ≤ sizeLine; decide, fun p hp => ?_⟩
      have e1 := Ex.new (o := .tup [V.str n, .bl true]) hp
      refine ⟨_, _, g, gv, (n, true), rfl, hc.mono e1, go, ⟨p, _, _, rfl, st_of upd_same, rfl, rfl⟩, hn, ?_⟩
      refine retO_any fun v1 H2 e2 h1 => ⟨rfl, ?_⟩
      rw [h1.1, Bool.not_not]
      have e02 := e1.trans e2
      cases hb : (chainFor g gv (n, true)).isSome with
      | true =>
        rw [hb, if_pos rfl] at k
        exact ⟨true, rfl, iteT (k H2 e02)⟩
      | false =>
        rw [hb, if_neg Bool.false_ne_true] at k
        refine ⟨false, rfl, iteF ?_⟩
        refine ⟨_, rfl, sf, dx, fs, rfl, e02 _ _ hsf, l3, _, rfl, by show 2 ≤ sizeLine; decide, fun p3 hp3 => ?_⟩
        have e3 := Ex.new (o := .tup [V.str n, .bl false]) hp3
        refine ⟨_, _, g, gv, (n, false), rfl, hc.mono (e02.trans e3), go, ⟨p3, _, _, rfl, st_of upd_same, rfl, rfl⟩, hn, ?_⟩
        refine retO_any fun v4 H4 e4 h4 => ⟨rfl, ?_⟩
        rw [h4.1, Bool.not_not]
        have e04 := (e02.trans e3).trans e4
        cases hb2 : (chainFor g gv (n, false)).isSome with
        | true =>
          rw [hb2, if_pos rfl] at k
          exact ⟨true, rfl, iteT (k H4 e04)⟩
        | false =>
          rw [hb2, if_neg Bool.false_ne_true] at k
          exact ⟨false, rfl, iteF (k H4 e04)⟩
theorem ok_completion_of (T : Txt K mg) : Cal P w K mg base (LX P w) 8 "completion_of" (spCompletionOf P w K) := by
  refine calX (N := ["grammar", "given"]) T.D_completion_of T.g_completion_of sc_completion_of (fun vs H Q E h => ?_) fun cdv A outer s H vs Q E hr h => ?_
  · obtain ⟨_, _, _, _, rfl, _⟩ := h; rfl
  · obtain ⟨v, g, u, ns, rfl, hg, G, hu, hns, n2, k, ke⟩ := h
    refine ⟨_, (pss_cons (ps_expr (pe_c (ok_check_grammar (P := P) (w := w) (base := base) T) hr (by decide) rfl pass0 (pa_cons (pv 0) pa_nil)))
      (pss_cons (ps_expr (pe_c (ok_check_names (P := P) (w := w) (base := base) T) hr (by decide) rfl pass0 (pa_cons (pv 0) (pa_cons (pv 1) pa_nil))))
      (pss_cons (ps_expr (pe_c (ok_check_satisfiable (P := P) (w := w) (base := base) T) hr (by decide) rfl (passes_call (takes_of rfl rfl rfl rfl) fun _ _ _ _ h => h) (pa_cons (pv 0) pa_nil)))
      (pss_one (ps_ret (pe_mk (mk_Completion (P := P) (w := w) (base := base) T) hr (by decide) rfl (passes_call (takes_of rfl rfl rfl rfl) fun _ _ _ _ h => h) (pa_cons (pv 0) (pa_cons (pv 1) pa_nil)))))))), ?_⟩
    have G2 := G.n2
    refine ⟨_, rfl, _, g, rfl, hg, G, fun H1 e1 => ?_⟩
    refine ⟨_, rfl, _, rfl, _, g, _, ns, rfl, mGram _ _ _ _ e1 hg, by omega, mLst mStr _ _ _ _ e1 hu, hns, fun H2 e2 => ?_⟩
    have e02 := e1.trans e2
    refine ⟨_, rfl, _, g, rfl, mGram _ _ _ _ e02 hg, G, fun hs H3 e3 => ?_, ke.sat.mono e02⟩
    have e03 := e02.trans e3
    refine ⟨_, rfl, _, rfl, fun s dx hs0 hdx hne => ?_⟩
    have e4 : Ex H3 (upd H3 dx (.own s)) := Ex.new hdx
    have hs2 : (upd H3 dx (.own s)) s = none := by rw [upd_ne (Ne.symm hne)]; exact hs0
    have e5 := e4.trans (Ex.new (o := .ins (He.ga K "Completion") dx []) hs2)
    have exb : ∀ {H' : Hp}, ExB s (upd (upd H3 dx (.own s)) s (.ins (He.ga K "Completion") dx [])) H' → Ex H3 H' := fun {H'} eb a o h => by
      have nas : a ≠ s := fun z => by rw [z, hs0] at h; cases h
      exact eb a o nas (e5 _ _ h)
    refine ⟨s, dx, _, g, _, ns, rfl, upd_same, mGram _ _ _ _ (e03.trans e5) hg, G, mLst mStr _ _ _ _ (e03.trans e5) hu, hns, n2, fun hc H' eb hcp => ⟨rfl, k ⟨hs, hc⟩ _ H' (e03.trans (exb eb)) hcp⟩, fun c hc d H' vt eb hd ht => ke.conf hs c hc d H' vt (e03.trans (exb eb)) hd ht⟩
theorem ok_explain_verdict (T : Txt K mg) : Cal P w K mg base (LX P w) 9 "explain_verdict" (spExplain K) := by
  refine calX (N := ["grammar", "given", "name", "completion", "verdict"]) T.D_explain_verdict T.g_explain_verdict sc_explain_verdict (fun vs H Q E h => ?_) fun cdv A outer s H vs Q E hr h => ?_
  · obtain ⟨_, _, _, _, _, rfl, _⟩ := h; rfl
  · obtain ⟨v, g, u, ns, n, rfl, hg, G, hu, hns, n2, hn, k, ke⟩ := h
    refine ⟨_, (pss_cons (ps_set (i := 3) sc_explain_verdict.nd rfl (Or.inl rfl) (pe_c (ok_completion_of (P := P) (w := w) (base := base) T) hr (by decide) rfl (passes_call (takes_of rfl rfl rfl rfl) fun _ _ _ _ h => h) (pa_cons (pv 0) (pa_cons (pv 1) pa_nil))))
      (pss_cons (ps_expr (pe_c (ok_check_names (P := P) (w := w) (base := base) T) hr (by decide) rfl pass0 (pa_cons (pv 0) (pa_cons (pe_lst (pa_cons (pv 2) pa_nil)) pa_nil))))
      (pss_cons (ps_set (i := 4) sc_explain_verdict.nd rfl (Or.inl rfl) (pe_mt (ok_Completion_verdict (P := P) (w := w) (base := base) T) hr (by decide) pass0 (pv 3) (pa_cons (pv 2) pa_nil)))
      (pss_cons (ps_if (pt_cmpR (inSq K) (pv 4) (pe_tup (pa_cons pe_str (pa_cons pe_str pa_nil))) rfl) (pss_one (ps_ret pe_non)) pss_nil)
      (pss_one (ps_ret (pe_mt (ok_Completion_chain_for (P := P) (w := w) (base := base) T) hr (by decide) pass0 (pv 3) (pa_cons (pe_tup (pa_cons (pv 2) (pa_cons (pe_cmpR op_eq (pv 4) pe_str (nomark _)) pa_nil))) pa_nil)))))))), ?_⟩
    have G2 := G.n2
    refine ⟨_, rfl, _, rfl, _, g, _, ns, rfl, hg, G, hu, hns, n2, fun hgo vc H1 e1 hcp => ?_, ke⟩
    have gok := gvOk_sortU hns n2
    refine ⟨_, rfl, _, rfl, by show 1 ≤ sizeLine; decide, fun p hp => ?_⟩
    have e2 := Ex.new (o := .lst [V.str n]) hp
    refine ⟨_, g, _, [n], rfl, mGram _ _ _ _ (e1.trans e2) hg, by omega, ⟨p, _, rfl, sq_of upd_same, .cons rfl .nil⟩, fun z hz => ?_, fun H3 e3 => ?_⟩
    · simp at hz
      subst hz
      exact hn
    have e13 := e2.trans e3
    have hc3 := hcp.mono e13
    obtain ⟨sf, dx, fs, vg, vgl, rfl, hsf, l1, l2, l3, l4, hgr, _⟩ := id hc3
    refine ⟨_, rfl, sf, dx, fs, rfl, hsf, l4, _, rfl, _, g, sortU ns, n, rfl, hc3, gok, hn, fun H4 e4 => ?_⟩
    have k2 := k hgo
    unfold explainOf at k2
    generalize hvd : verdictOf g (sortU ns) n = vd at k2
    have e04 := (e1.trans e13).trans e4
    refine ⟨_, rfl, by show 2 ≤ sizeLine; decide, fun pt hpt => ?_⟩
    have e5 := Ex.new (o := .tup [V.str "given", .str "possible"]) hpt
    have e05 := e04.trans e5
    refine ⟨_, _, rfl, .inr (st_of upd_same), rfl, flat_strs ["given", "possible"], ?_⟩
    show ∃ b, V.bl (inV (.str vd) ((["given", "possible"] : List Str).map V.str)) = V.bl b ∧ _
    rw [inV_strs]
    by_cases hin : vd ∈ (["given", "possible"] : List Str)
    · rw [if_pos hin] at k2
      exact ⟨true, blT hin, iteT (k2 _ e05)⟩
    · rw [if_neg hin] at k2
      refine ⟨false, blF hin, iteF ?_⟩
      have e45 := e4.trans e5
      refine ⟨_, rfl, sf, dx, fs, rfl, e45 _ _ hsf, l3, _, rfl, _, rfl, rfl, by show 2 ≤ sizeLine; decide, fun pq hpq => ?_⟩
      have e6 := Ex.new (o := .tup [V.str n, .bl (decide (V.str vd = V.str "required"))]) hpq
      have e06 := e05.trans e6
      have eb : decide (V.str vd = V.str "required") = decide (vd = "required") := by
        by_cases z : vd = "required"
        · rw [z, decide_eq_true rfl, decide_eq_true rfl]
        · rw [decide_eq_false z, decide_eq_false fun q => z (by injection q)]
      refine ⟨_, _, g, sortU ns, (n, decide (vd = "required")), rfl, hc3.mono (e45.trans e6), gok, ⟨pq, _, _, rfl, st_of upd_same, rfl, congrArg V.bl eb⟩, hn, ?_⟩
      cases ho : chainFor g (sortU ns) (n, decide (vd = "required")) with
      | none =>
        rw [ho] at k2
        exact fun H' e => k2 H' (e06.trans e)
      | some x =>
        rw [ho] at k2
        exact fun p' H' xs hp' e h' hl' => k2 p' H' xs (fresh_back e06 hp') (e06.trans e) h' hl'
theorem ok_complete (T : Txt K mg) : Cal P w K mg base (LX P w) 9 "complete" (spComplete K) := by
  refine calX (N := ["grammar", "given", "completion", "names", "name"]) T.D_complete T.g_complete sc_complete (fun vs H Q E h => ?_) fun cdv A outer s H vs Q E hr h => ?_
  · obtain ⟨_, _, _, _, rfl, _⟩ := h; rfl
  · obtain ⟨v, g, u, ns, rfl, hg, G, hu, hns, n2, k, ke⟩ := h
    refine ⟨_, (pss_cons (ps_set (i := 2) sc_complete.nd rfl (Or.inl rfl) (pe_c (ok_completion_of (P := P) (w := w) (base := base) T) hr (by decide) rfl (passes_call (takes_of rfl rfl rfl rfl) fun _ _ _ _ h => h) (pa_cons (pv 0) (pa_cons (pv 1) pa_nil))))
      (pss_cons (ps_for (passes_of rfl) rfl (pi_list (pe_c (ok_accepted_sets (P := P) (w := w) (base := base) T) hr (by decide) rfl pass0 (pa_cons (pv 0) pa_nil))) (pg_name (i := 3) sc_complete.nd rfl (Or.inr rfl)) (pss_one (ps_if (pt_val (pe_callB (cr_all rfl) rfl T.f_all bt_all (pa_cons (pe_lc (own := [("name", 4)]) (g := gName 4) (tt := tYes) rfl sc_complete.nd (pi_list (pe_fld (pv 2) rfl)) (blkOk_by (N := ["grammar", "given", "completion", "names", "name"]) (sc := defScope s_complete) (by decide +kernel)) (fun _ _ _ _ _ => (pg_name (i := 4) sc_complete.nd rfl (Or.inl rfl))) (fun _ _ _ _ _ => pts_nil) (fun _ _ _ _ _ => (pe_cmpR (inSq K) (pv 4) (pv 3) rfl))) pa_nil))) (pss_one (ps_ret (pv 3))) pss_nil)))
      (pss_one (ps_ret pe_non)))), ?_⟩
    have G2 := G.n2
    refine ⟨_, rfl, _, rfl, _, g, _, ns, rfl, hg, G, hu, hns, n2, fun hgo vc H1 e1 hcp => ?_, ke⟩
    obtain ⟨sf, dx, fs, vg, vgl, rfl, hsf, l1, l2, l3, l4, hgr, ⟨pg, xs, rfl, hpg, hgl⟩⟩ := id hcp
    have k2 := k hgo
    have gvl : (sortU ns).length ≤ 2 := Nat.le_trans (sortU_len ns) n2
    refine ⟨_, rfl, _, g, rfl, mGram _ _ _ _ e1 hg, G, fun pa H2 ys hpa e2 h2 hl2 => ?_⟩
    unfold completeOf at k2
    generalize sortU ns = gv at hcp hgl k2 gvl
    generalize acceptedOf g = acc at hl2 k2
    have e02 := e1.trans e2
    refine ⟨pa, rfl, ⟨ys, sq_of h2⟩, for_list (K := K) (a := pa) (xs := ys) (fun (i : Nat) (σ' : L2.St) (H' : Hp) => ∃ o3, σ' = [some v, some u, some (.ref sf), o3, none] ∧ Ex H2 H' ∧ ∀ s ∈ acc.take i, (gv.all fun z => decide (z ∈ s)) = false) ⟨_, rfl, Ex.refl _, fun _ h => by simp at h⟩ (fun i σ' H' _ ⟨_, _, e, _⟩ => sq_of (e _ _ h2)) ?_ ?_⟩
    · rintro i x σ' H3 hi ⟨o3, rfl, e3, hall⟩
      obtain ⟨s, hs, rs⟩ := (hl2.mono (mNew mStr) e3).getV hi
      have tk : acc.take (i + 1) = acc.take i ++ [s] := by rw [List.take_succ, hs]; rfl
      obtain ⟨ps, ws, rfl, hps0, hps, hws⟩ := id rs
      have := lr_strs hws
      subst this
      have e13 := e2.trans e3
      refine g_go ?_
      refine evr_go (R := rBl) (evr_all (evn_lcL1 (K := K) (R := rStr) (S := rBl) (as := gv) (fun z => decide (z ∈ s)) (fun H4 e4 Q q => ?_) (by omega) mStr mBl (fun _ => rfl) fun x1 z H4 D l hz e4 hD0 hD hx => evr_at bBl hD fun H5 e5 Q q => ?_)) fun vb H4 e4 hvb => ?_
      · exact ⟨_, rfl, sf, _, dx, fs, _, rfl, (e13.trans e4) _ _ hsf, T.c_Completion, T.n_Completion_given, l2, q _ H4 (Ex.refl _) ⟨pg, xs, rfl, ex_l (e13.trans e4) hpg, hgl.mono mStr (e13.trans e4)⟩⟩
      · obtain rfl : x1 = .str z := hx
        refine ⟨_, rfl, _, rfl, _, _, rfl, .inl (sq_of ((e4.trans e5) _ _ hps)), rfl, flat_strs _, q _ H5 (Ex.refl _) ?_⟩
        show V.bl (inV (.str z) (s.map V.str)) = _
        rw [inV_strs]
      · have hb0 : (gv.map fun z => decide (z ∈ s)).all id = gv.all fun z => decide (z ∈ s) := by simp [List.all_map]
        rw [hb0] at hvb
        obtain rfl : vb = .bl (gv.all fun z => decide (z ∈ s)) := hvb
        cases hb : gv.all fun z => decide (z ∈ s) with
        | false =>
          refine ⟨false, rfl, iteF ⟨_, rfl, e3.trans e4, fun d hd => ?_⟩⟩
          rw [tk] at hd
          rcases List.mem_append.mp hd with hd | hd
          · exact hall d hd
          · simp at hd
            subst hd
            exact hb
        | true =>
          refine ⟨true, rfl, iteT ⟨_, rfl, ?_⟩⟩
          have hf : acc.find? (fun s => gv.all fun z => decide (z ∈ s)) = some s := by
            rw [List.find?_eq_some_iff_getElem]
            have hlt := (List.getElem?_eq_some_iff.mp hs).1
            refine ⟨hb, i, hlt, (List.getElem?_eq_some_iff.mp hs).2, fun j hj => ?_⟩
            have hjl : j < acc.length := by omega
            have hm : acc[j] ∈ acc.take i := by
              rw [List.mem_take_iff_getElem]
              exact ⟨j, by omega, rfl⟩
            rw [hall _ hm]
            rfl
          rw [hf] at k2
          exact k2 ps H4 _ (fresh_back e1 hps0) ((e02.trans e3).trans e4) (e4 _ _ hps) (lr_strOf _)
    · rintro σ' H3 ⟨o3, rfl, e3, hall⟩
      have hl : ys.length = acc.length := hl2.length
      rw [hl, List.take_length] at hall
      have hf : acc.find? (fun s => gv.all fun z => decide (z ∈ s)) = none := by
        rw [List.find?_eq_none]
        intro s hs
        rw [hall s hs]
        simp
      rw [hf] at k2
      exact k2 H3 (e02.trans e3)
theorem ok_verdicts (T : Txt K mg) : Cal P w K mg base (LX P w) 9 "verdicts" (spVerdicts K) := by
  refine calX (N := ["grammar", "given", "completion", "name"]) T.D_verdicts T.g_verdicts sc_verdicts (fun vs H Q E h => ?_) fun cdv A outer s H vs Q E hr h => ?_
  · obtain ⟨_, _, _, _, rfl, _⟩ := h; rfl
  · obtain ⟨v, g, u, ns, rfl, hg, G, hu, hns, n2, k, ke⟩ := h
    refine ⟨_, (pss_cons (ps_set (i := 2) sc_verdicts.nd rfl (Or.inr rfl) (pe_c (ok_completion_of (P := P) (w := w) (base := base) T) hr (by decide) rfl (passes_call (takes_of rfl rfl rfl rfl) fun _ _ _ _ h => h) (pa_cons (pv 0) (pa_cons (pv 1) pa_nil))))
      (pss_one (ps_ret (pe_dc (own := [("name", 3)]) (g := gName 3) (tt := tYes) rfl sc_verdicts.nd (pi_list (pe_c (ok_names_of (P := P) (w := w) (base := base) T) hr (by decide) rfl pass0 (pa_cons (pv 0) pa_nil))) (blkOk_by (N := ["grammar", "given", "completion", "name"]) (sc := defScope s_verdicts) (by decide +kernel)) (fun _ _ _ _ _ => (pg_name (i := 3) sc_verdicts.nd rfl (Or.inl rfl))) (fun _ _ _ _ _ => pts_nil) (fun _ _ _ _ _ => (pv 3)) (fun _ _ _ _ _ => (pe_mt (ok_Completion_verdict (P := P) (w := w) (base := base) T) hr (by decide) pass0 (pv 2) (pa_cons (pv 3) pa_nil))))))), ?_⟩
    have G2 := G.n2
    refine ⟨_, rfl, _, rfl, _, g, _, ns, rfl, hg, G, hu, hns, n2, fun hgo vc H1 e1 hcp => ?_, ke⟩
    have gok := gvOk_sortU hns n2
    have k2 := k hgo
    generalize sortU ns = gv at hcp gok k2
    refine ⟨_, rfl, _, g, rfl, mGram _ _ _ _ e1 hg, by omega, fun pn H2 ys hpn e2 h2 hl2 => ?_⟩
    have e02 := e1.trans e2
    refine ⟨pn, rfl, ⟨ys, sq_of h2⟩, fun D hD => ?_⟩
    have nl := names_len (g := g)
    have yl := hl2.length
    refine ⟨fun i m H3 => m = (names g).length - i ∧ i ≤ (names g).length ∧ Ex H2 H3 ∧ H3 D = some (.dK (verdKv g gv ((names g).take i))), ⟨_, rfl, Nat.zero_le _, Ex.new hD, upd_same⟩, ?_⟩
    rintro i m H3 ⟨rfl, hi, e3, h3⟩
    by_cases hlt : i < (names g).length
    · obtain ⟨n, hn⟩ : ∃ n, (names g)[i]? = some n := ⟨(names g)[i], by simp [hlt]⟩
      obtain ⟨x, hx, rx⟩ := hl2.get hn
      obtain rfl : x = .str n := rx
      have hm : n ∈ names g := List.mem_of_getElem? hn
      have tk : (names g).take (i + 1) = (names g).take i ++ [n] := by rw [List.take_succ, hn]; rfl
      refine .inr ⟨⟨ys, _, sq_of (e3 _ _ h2), hx⟩, fun H' => Ex H2 H' ∧ H' D = some (.dK (verdKv g gv ((names g).take (i + 1)))), fun H' h => ⟨_, by omega, rfl, by omega, h⟩, fun x H' y => ?_⟩
      obtain ⟨rfl, y⟩ := y
      have ex := y _ (sq_of (e3 _ _ h2))
      rw [hx] at ex
      cases ex
      refine ⟨rfl, yesT (iteT ?_)⟩
      obtain ⟨sf, dx, fs, vg, vgl, rfl, hsf, l1, l2, l3, l4, hgr, _⟩ := id hcp
      refine ⟨_, rfl, _, rfl, sf, dx, fs, rfl, (e2.trans e3) _ _ hsf, l4, _, rfl, _, g, gv, n, rfl, hcp.mono (e2.trans e3), gok, hm, fun H4 e4 => ?_⟩
      refine ⟨_, Sum.inr n, rfl, e4 _ _ h3, ?_, Ex.mut (e3.trans e4) hD, ?_⟩
      · unfold verdKv
        rw [List.length_map, List.length_take]
        exact sz_lt (by omega)
      · rw [upd_same, tk]
        congr 2
        have nv : valV (verdKv g gv ((names g).take i)) (Sum.inr n) = none := valV_none_of (fun hmem => by
          unfold verdKv at hmem
          rw [List.map_map] at hmem
          obtain ⟨z, hz, ez⟩ := List.mem_map.mp hmem
          have ez2 : (Sum.inr z : Key) = Sum.inr n := ez
          injection ez2 with ez2
          exact not_in_take G.names hn (ez2 ▸ hz))
        rw [putK_new _ nv]
        unfold verdKv
        rw [List.map_append]
        rfl
    · have ei : i = (names g).length := by omega
      subst ei
      rw [List.take_length] at h3
      exact .inl ⟨⟨ys, sq_of (e3 _ _ h2), by omega⟩, k2 D H3 (fresh_back e02 hD) (e02.trans e3) h3⟩
end
end K19

/-! ## K19La -/
set_option Elab.async false
set_option linter.all false
set_option maxRecDepth 100000
set_option maxHeartbeats 4000000
namespace K19
open PySem PySem.Spec PyProof.Rows L2 Evl




theorem sc__law_dice : FnScope ["_law_script", "_law_mixed", "_law_cell"] p__law_dice (defScope s__law_dice) := ⟨rfl, rfl, rfl, by decide +kernel, rfl, by decide +kernel, by decide +kernel⟩
theorem sc__law_next : FnScope ["_law_dice_here", "_law_many", "_law_found", "_law_cell"] p__law_next (defScope s__law_next) := ⟨rfl, rfl, rfl, by decide +kernel, rfl, by decide +kernel, by decide +kernel⟩
theorem sc__law_pick : FnScope ["_law_d", "_law_some"] p__law_pick (defScope s__law_pick) := ⟨rfl, rfl, rfl, by decide +kernel, rfl, by decide +kernel, by decide +kernel⟩
theorem sc__law_names : FnScope ["_law_grammar_here", "_law_one"] p__law_names (defScope s__law_names) := ⟨rfl, rfl, rfl, by decide +kernel, rfl, by decide +kernel, by decide +kernel⟩
section
variable {X : Cx}
theorem cr_listOf (K : PySem.W.Frag) (h : X.K = K := by rfl) : CallR X (.type "list") (fun xs H Q => ∃ p ys, xs = [.ref p] ∧ (SqL K H p ys ∨ SqT K H p ys) ∧ ∀ l, H l = none → Q (.ref l) (upd H l (.lst ys))) := by subst h; exact call_list_of
theorem cr_tupleOf (K : PySem.W.Frag) (h : X.K = K := by rfl) : CallR X (.type "tuple") (fun xs H Q => ∃ p ys, xs = [.ref p] ∧ ((SqL K H p ys ∧ ∀ l, H l = none → Q (.ref l) (upd H l (.tup ys))) ∨ (SqT K H p ys ∧ Q (.ref p) H))) := by subst h; exact call_tuple_of
end
section
variable {X : Cx} {o e : Expr} {es : List Expr} {to : TE} {t : TA} {name : Str} {apos cpos : Pos} {Ty id : String} {r : V → List V → Hp → VK → Prop}
theorem pe_bm0k (K : PySem.W.Frag) (pa : PlainAttrs Ty) (slot : Slot Ty name id) (hty : typeOf (.builtin id) = pure (.type "method_descriptor")) (hm : MtR X id r) (ho : PE X o to) (hK : X.K = K := by rfl)
    (hbase : attributeBase o name X.env (eval o X.env) = eval o X.env := by rfl) (hline : (apos.endLine == cpos.line) = true := by rfl) : PE X (.Call (.Attribute o name apos) [] [] cpos) (tBM0 K Ty r to) := by
  subst hK
  exact pe_bm0 pa slot hty hm ho hbase hline
theorem pe_bmK (K : PySem.W.Frag) (pa : PlainAttrs Ty) (slot : Slot Ty name id) (hty : typeOf (.builtin id) = pure (.type "method_descriptor")) (hm : MtR X id r) (ho : PE X o to) (ha : PA X (e :: es) t) (hK : X.K = K := by rfl)
    (hbase : attributeBase o name X.env (eval o X.env) = eval o X.env := by rfl)
    (hfew : ((backTo cpos (starEach (e :: es) X.env)).all (fun x => !x.1) && (backToKw cpos (keywordEach [] X.env)).all (fun x => x.1.isSome)
      && decide ((e :: es).length + ([] : List Keyword).length + (if ([] : List Keyword).isEmpty then 0 else 1) < 30)) = true := by rfl)
    (hline : (apos.endLine == cpos.line) = true := by rfl) (hs : starEach (e :: es) X.env = (false, eval e X.env) :: starEach es X.env := by rfl) (hplain : (backTo cpos (starEach es X.env)).any (·.1) = false := by rfl) :
    PE X (.Call (.Attribute o name apos) (e :: es) [] cpos) (tBM K Ty r to t) := by
  subst hK
  exact pe_bm pa slot hty hm ho ha hbase hfew hline hs hplain
end
/-! ### the dice -/
theorem ExB.refl {d : Addr} {H : Hp} : ExB d H H := fun _ _ _ h => h
theorem ExB.trans {d : Addr} {H H1 H2 : Hp} (a : ExB d H H1) (b : ExB d H1 H2) : ExB d H H2 := fun x o n h => b x o n (a x o n h)
theorem ExB.of {d : Addr} {H H1 : Hp} (a : Ex H H1) : ExB d H H1 := fun x o _ h => a x o h
theorem ExB.upd {d : Addr} {H : Hp} {o : HO} : ExB d H (upd H d o) := fun x _ n h => by rw [upd_ne n]; exact h
theorem exb_l {K : PySem.W.Frag} {d a : Addr} {H H' : Hp} {xs : List V} (e : ExB d H H') (n : a ≠ d) (h : SqL K H a xs) : SqL K H' a xs := by
  rcases h with (h | ⟨o, h⟩) | h
  · exact .inl (.inl (e _ _ n h))
  · exact .inl (.inr ⟨o, e _ _ n h⟩)
  · exact .inr h
/-- a list that no change of d touches -/
def SqB (K : PySem.W.Frag) (d : Addr) (H : Hp) (a : Addr) (xs : List V) : Prop := ∀ H', ExB d H H' → SqL K H' a xs
theorem SqB.go {K : PySem.W.Frag} {d a : Addr} {H H' : Hp} {xs : List V} (h : SqB K d H a xs) (e : ExB d H H') : SqB K d H' a xs := fun H2 e2 => h H2 (e.trans e2)
theorem SqB.now {K : PySem.W.Frag} {d a : Addr} {H : Hp} {xs : List V} (h : SqB K d H a xs) : SqL K H a xs := h H ExB.refl
theorem SqB.ne {K : PySem.W.Frag} {d a : Addr} {H : Hp} {xs : List V} (h : SqL K H a xs) (n : a ≠ d) : SqB K d H a xs := fun _ e => exb_l e n h
theorem SqB.new {K : PySem.W.Frag} {d a : Addr} {H H' : Hp} {xs : List V} (h : SqL K H a xs) (n : H d = none) (e : Ex H H') : SqB K d H' a xs := fun H2 e2 => by
  rcases h with (h | ⟨o, h⟩) | h
  · exact .inl (.inl (e2 _ _ (fun z => by rw [z, n] at h; cases h) (e _ _ h)))
  · exact .inl (.inr ⟨o, e2 _ _ (fun z => by rw [z, n] at h; cases h) (e _ _ h)⟩)
  · exact .inr h
/-- the dice: a list that holds the script -/
def Dice (K : PySem.W.Frag) (d : Addr) (S : Addr × List Int) (H : Hp) : Prop := ∃ (x y z : Int), H d = some (.lst [.ref S.1, .int x, .int y, .int z]) ∧ SqB K d H S.1 (S.2.map V.int) ∧ S.2.length ≤ 63 ∧ 0 ≤ x
theorem Dice.mono {K : PySem.W.Frag} {d : Addr} {S : Addr × List Int} {H H' : Hp} (h : Dice K d S H) (e : Ex H H') : Dice K d S H' := by
  obtain ⟨x, y, z, h1, h2, h3, h4⟩ := h
  exact ⟨x, y, z, e _ _ h1, h2.go (ExB.of e), h3, h4⟩
def spDice (K : PySem.W.Frag) : Sp := fun vs H Q _ => ∃ (a : Addr) (ns : List Int), vs = [.ref a] ∧ SqL K H a (ns.map V.int) ∧ ns.length ≤ 63 ∧ ∀ d H', H d = none → Ex H H' → Dice K d (a, ns) H' → Q (.ref d) H'
def spNext (K : PySem.W.Frag) : Sp := fun vs H Q _ => ∃ (d : Addr) (m : Nat) (S : Addr × List Int), vs = [.ref d, .int (m : Int)] ∧ Dice K d S H ∧ 0 < m ∧ m ≤ 100000 ∧ ∀ (r : Nat) H', r < m → ExB d H H' → Dice K d S H' → Q (.int (r : Int)) H'
/-- one of the items of a list -/
def spPick (K : PySem.W.Frag) : Sp := fun vs H Q _ => ∃ (d p : Addr) (xs : List V) (S : Addr × List Int), vs = [.ref d, .ref p] ∧ Dice K d S H ∧ SqB K d H p xs ∧ 0 < xs.length ∧ xs.length ≤ 100000 ∧ ∀ x H', x ∈ xs → ExB d H H' → Dice K d S H' → Q x H'
def spLNames (K : PySem.W.Frag) : Sp := fun vs H Q _ => ∃ v g, vs = [v] ∧ rGram K H v g ∧ (names g).length ≤ 6 ∧ RetN rStr (names g) H Q
theorem pos214 : (0 : Int) < 2147483647 := by decide
theorem emod_nat {i : Int} {m : Nat} (h : 0 < m) : ∃ r : Nat, r < m ∧ i % (m : Int) = (r : Int) := by
  have h1 := Int.emod_nonneg i (show (m : Int) ≠ 0 by omega)
  have h2 := Int.emod_lt_of_pos i (show (0 : Int) < m by omega)
  exact ⟨(i % (m : Int)).toNat, by omega, by omega⟩
section
variable {P : Program} {w : World} {K : PySem.W.Frag} {mg : Str → Option Value} {base : Heap}
theorem ok__law_dice (T : Txt K mg) : Cal P w K mg base CX0 1 "_law_dice" (spDice K) := by
  refine cal0 (N := ["_law_script", "_law_mixed", "_law_cell"]) T.D__law_dice T.g__law_dice sc__law_dice (fun vs H Q E h => ?_) fun cdv A outer s H vs Q E hr h => ?_
  · obtain ⟨_, _, rfl, _⟩ := h; rfl
  · obtain ⟨a, ns, rfl, ha, hn, k⟩ := h
    refine ⟨_, (pss_cons (ps_set (i := 1) sc__law_dice.nd rfl (Or.inl rfl) pe_int)
      (pss_cons (ps_for PassesOwn.never rfl (pi_list (pv 0)) (pg_name (i := 2) sc__law_dice.nd rfl (Or.inl rfl)) (pss_one (ps_set (i := 1) sc__law_dice.nd rfl (Or.inl rfl) (pe_op op_mod (pe_op op_add (pe_op op_add (pe_op op_mul (pv 1) pe_int) (pe_op op_mul (pe_op op_mod (pe_callTy call_int1 rfl T.f_int bt_int (pa_cons (pv 2) pa_nil)) pe_int) pe_int)) pe_int) pe_int))))
      (pss_one (ps_ret (pe_lst (pa_cons (pv 0) (pa_cons pe_int (pa_cons (pe_op op_mul (pv 1) (pe_callTy call_int1 rfl T.f_int bt_int (pa_cons (pe_cmpR op_gt (pe_callB (lenSq K) rfl T.f_len bt_len (pa_cons (pv 0) pa_nil)) pe_int (nomark _)) pa_nil))) (pa_cons pe_int pa_nil))))))))), ?_⟩
    refine ⟨_, rfl, _, rfl, ⟨_, ha⟩, for_list (K := K) (a := a) (xs := ns.map V.int) (fun (i : Nat) (σ' : L2.St) (H' : Hp) => ∃ (m : Int) (o : Option V), σ' = [some (.ref a), some (.int m), o] ∧ H' = H) ⟨_, _, rfl, rfl⟩ (fun i σ' H' _ ⟨_, _, _, e⟩ => e ▸ ha) ?_ ?_⟩
    · rintro i x σ' H3 hi ⟨m, o, rfl, rfl⟩
      obtain ⟨c, rfl⟩ : ∃ c, x = V.int c := by
        obtain ⟨c, _, hc⟩ := List.mem_map.mp (List.mem_of_getElem? hi)
        exact ⟨c, hc.symm⟩
      refine g_go ?_
      refine ⟨_, rfl, _, _, rfl, rfl, .inr ⟨by decide, by decide⟩, ?_⟩
      refine ⟨_, rfl, .inl ⟨_, rfl, ?_⟩⟩
      refine ⟨_, _, rfl, rfl, pos214, _, _, rfl, rfl, .inr ⟨by decide, by decide⟩, _, _, rfl, rfl, _, _, rfl, rfl, _, _, rfl, rfl, pos214, ?_⟩
      exact ⟨_, _, rfl, rfl⟩
    · rintro σ' H3 ⟨m, o, rfl, rfl⟩
      refine ⟨_, rfl, _, rfl, _, rfl, _, _, rfl, .inl ha, _, _, rfl, rfl, .inr ⟨_, rfl, ?_⟩⟩
      refine ⟨_, _, rfl, rfl, .inr ?_, by show 4 ≤ sizeLine; decide, fun p hp => ?_⟩
      · split <;> exact ⟨by decide, by decide⟩
      have e1 := Ex.new (o := .lst [V.ref a, .int 0, .int (m * if decide ((2 : Int) < (ns.map V.int).length) = true then 1 else 0), .int 0]) hp
      exact k p _ hp e1 ⟨0, _, 0, upd_same, SqB.new ha hp e1, hn, Int.le_refl 0⟩
theorem ok__law_next (T : Txt K mg) : Cal P w K mg base CX0 1 "_law_next" (spNext K) := by
  refine cal0 (N := ["_law_dice_here", "_law_many", "_law_found", "_law_cell"]) T.D__law_next T.g__law_next sc__law_next (fun vs H Q E h => ?_) fun cdv A outer s H vs Q E hr h => ?_
  · obtain ⟨_, _, _, rfl, _⟩ := h; rfl
  · obtain ⟨d, m, ⟨a, ns⟩, rfl, ⟨x, y, z, hd, ha, hn, hx⟩, m0, m1, k⟩ := h
    dsimp only at hd ha hn
    refine ⟨_, (pss_cons (ps_if (pt_cmpR op_gt (pe_ix (ixL K) (pv 0) pe_int (fun _ _ => rfl)) pe_int (nomark _)) (pss_cons (ps_set (i := 2) sc__law_next.nd rfl (Or.inl rfl) (pe_op op_mod (pe_callTy call_int1 rfl T.f_int bt_int (pa_cons (pe_ix (ixL K) (pv 0) pe_int (fun _ _ => rfl)) pa_nil)) (pv 1)))
      (pss_cons (ps_asg (pe_op op_fdiv (pe_ix (ixL K) (pv 0) pe_int (fun _ _ => rfl)) (pv 1)) (pg_sub (pv 0) pe_int set_list))
      (pss_one (ps_ret (pv 2))))) pss_nil)
      (pss_cons (ps_asg (pe_op op_add (pe_ix (ixL K) (pv 0) pe_int (fun _ _ => rfl)) pe_int) (pg_sub (pv 0) pe_int set_list))
      (pss_cons (ps_if (pt_cmpR op_le (pe_ix (ixL K) (pv 0) pe_int (fun _ _ => rfl)) (pe_callB (lenSq K) rfl T.f_len bt_len (pa_cons (pe_ix (ixL K) (pv 0) pe_int (fun _ _ => rfl)) pa_nil)) (nomark _)) (pss_cons (ps_set (i := 3) sc__law_next.nd rfl (Or.inl rfl) (pe_ix (ixL K) (pe_ix (ixL K) (pv 0) pe_int (fun _ _ => rfl)) (pe_op op_sub (pe_ix (ixL K) (pv 0) pe_int (fun _ _ => rfl)) pe_int) (fun _ _ => rfl)))
      (pss_cons (ps_asg (pe_ifExp (pt_cmpR op_ge (pv 3) (pe_op op_pow pe_int pe_int) (nomark _)) (pe_op op_fdiv (pv 3) (pv 1)) pe_int) (pg_sub (pv 0) pe_int set_list))
      (pss_one (ps_ret (pe_op op_mod (pe_callTy call_int1 rfl T.f_int bt_int (pa_cons (pv 3) pa_nil)) (pv 1)))))) pss_nil)
      (pss_cons (ps_asg (pe_op op_mod (pe_callTy call_int1 rfl T.f_int bt_int (pa_cons (pe_op op_mul (pe_ix (ixL K) (pv 0) pe_int (fun _ _ => rfl)) pe_int) pa_nil)) pe_int) (pg_sub (pv 0) pe_int set_list))
      (pss_one (ps_ret (pe_op op_mod (pe_op op_fdiv (pe_ix (ixL K) (pv 0) pe_int (fun _ _ => rfl)) pe_int) (pv 1)))))))), ?_⟩
    have im : (0 : Int) < (m : Int) := by omega
    refine ⟨_, rfl, _, _, _, _, rfl, rfl, sq_of hd, atI_nat (j := 3) rfl, _, _, rfl, rfl, ?_⟩
    by_cases hz : (0 : Int) < z
    · refine ⟨true, blT hz, iteT ?_⟩
      refine ⟨_, rfl, _, _, _, _, rfl, rfl, sq_of hd, atI_nat (j := 3) rfl, .inl ⟨_, rfl, _, rfl, _, _, rfl, rfl, im, ?_⟩⟩
      refine ⟨_, rfl, _, _, _, _, rfl, rfl, sq_of hd, atI_nat (j := 3) rfl, _, rfl, _, _, rfl, rfl, ⟨im, by omega⟩, ?_⟩
      refine ⟨_, rfl, _, _, _, 3, rfl, rfl, hd, rfl, ?_⟩
      obtain ⟨r, hr, er⟩ := emod_nat (i := z) m0
      refine ⟨_, rfl, ?_⟩
      show Q (V.int (z % (m : Int))) _
      rw [er]
      exact k r _ hr ExB.upd ⟨x, y, _, upd_same, ha.go ExB.upd, hn, hx⟩
    · refine ⟨false, blF hz, iteF ?_⟩
      refine ⟨_, rfl, _, _, _, _, rfl, rfl, sq_of hd, atI_nat (j := 1) rfl, _, _, rfl, rfl, ?_⟩
      refine ⟨_, rfl, _, _, _, 1, rfl, rfl, hd, rfl, ?_⟩
      generalize hH1 : upd H d _ = H1
      have hd1 : H1 d = some (.lst [.ref a, .int (x + 1), .int y, .int z]) := by rw [← hH1]; exact upd_same
      have eb1 : ExB d H H1 := hH1 ▸ ExB.upd
      have ha1 := ha.go eb1
      clear hH1
      have sd := sq_of (K := K) hd1
      refine ⟨_, rfl, _, _, _, _, rfl, rfl, sd, atI_nat (j := 1) rfl, _, rfl, _, _, _, _, rfl, rfl, sd, atI_nat (j := 0) rfl, _, _, rfl, .inl ha1.now, _, _, rfl, rfl, ?_⟩
      by_cases hl : x + 1 ≤ ((ns.map V.int).length : Int)
      · refine ⟨true, blT hl, iteT ?_⟩
        rw [List.length_map] at hl
        obtain ⟨c, hc⟩ : ∃ c, ns[x.toNat]? = some c := ⟨ns[x.toNat]'(by omega), by simp [show x.toNat < ns.length by omega]⟩
        have hc2 : atI (ns.map V.int) (x + 1 - 1) = some (.int c) := by
          have e : x + 1 - 1 = ((x.toNat : Nat) : Int) := by omega
          rw [e]
          exact atI_nat (by rw [List.getElem?_map, hc]; rfl)
        refine ⟨_, rfl, _, _, _, _, rfl, rfl, sd, atI_nat (j := 0) rfl, _, rfl, _, _, _, _, rfl, rfl, sd, atI_nat (j := 1) rfl, _, _, rfl, rfl, _, _, _, _, rfl, rfl, ha1.now, hc2, ?_⟩
        have fin : ∀ t : Int, ∃ v, ([some (V.ref d), some (.int (m : Int)), none, some (.int c)] : L2.St)[0]? = some (some v) ∧ (∃ p xs k j, v = .ref p ∧ V.int 3 = .int k ∧ H1 p = some (.lst xs) ∧ ixN xs.length k = some j ∧ (tRet (tOp (rI (fun x j => 0 < j) fun i j => V.int (i % j)) (tCB (fun xs H Q => (∃ i, xs = [V.int i] ∧ Q (V.int i) H) ∨ ∃ k, xs = [V.bl k] ∧ Q (V.int (if k = true then 1 else 0)) H) (tCons (tVar 3) tNil)) (tVar 1))) { nx := fun x H' => Q V.non H', rt := Q } [some (V.ref d), some (.int (m : Int)), none, some (.int c)] (upd H1 p (.lst (xs.set j (.int t))))) := fun t => by
          refine ⟨_, rfl, _, _, _, 3, rfl, rfl, hd1, rfl, ?_⟩
          obtain ⟨r, hr, er⟩ := emod_nat (i := c) m0
          refine ⟨_, rfl, .inl ⟨_, rfl, _, rfl, _, _, rfl, rfl, im, ?_⟩⟩
          show Q (V.int (c % (m : Int))) _
          rw [er]
          exact k r _ hr (eb1.trans ExB.upd) ⟨x + 1, y, t, upd_same, ha1.go ExB.upd, hn, by omega⟩
        refine ⟨_, rfl, _, _, rfl, rfl, ⟨by decide, by decide, by decide⟩, _, _, rfl, rfl, ?_⟩
        by_cases hb : (10 : Int) ^ (18 : Int).toNat ≤ c
        · exact ⟨true, blT hb, iteT ⟨_, rfl, _, rfl, _, _, rfl, rfl, ⟨im, by omega⟩, fin _⟩⟩
        · exact ⟨false, blF hb, iteF (fin _)⟩
      · refine ⟨false, blF hl, iteF ?_⟩
        refine ⟨_, rfl, _, _, _, _, rfl, rfl, sd, atI_nat (j := 2) rfl, _, _, rfl, rfl, .inr ⟨by decide, by decide⟩, .inl ⟨_, rfl, _, _, rfl, rfl, pos214, ?_⟩⟩
        refine ⟨_, rfl, _, _, _, 2, rfl, rfl, hd1, rfl, ?_⟩
        refine ⟨_, rfl, _, _, _, _, rfl, rfl, sq_of upd_same, atI_nat (j := 2) rfl, _, _, rfl, rfl, ⟨by decide, by decide⟩, _, rfl, _, _, rfl, rfl, im, ?_⟩
        obtain ⟨r, hr, er⟩ := emod_nat (i := y * 48271 % 2147483647 / 7) m0
        show Q (V.int (y * 48271 % 2147483647 / 7 % (m : Int))) _
        rw [er]
        exact k r _ hr (eb1.trans ExB.upd) ⟨x + 1, _, z, upd_same, ha1.go ExB.upd, hn, by omega⟩
theorem ok__law_pick (T : Txt K mg) : Cal P w K mg base CX0 2 "_law_pick" (spPick K) := by
  refine cal0 (N := ["_law_d", "_law_some"]) T.D__law_pick T.g__law_pick sc__law_pick (fun vs H Q E h => ?_) fun cdv A outer s H vs Q E hr h => ?_
  · obtain ⟨_, _, _, _, rfl, _⟩ := h; rfl
  · obtain ⟨d, p, xs, S, rfl, hd, hp, x0, x1, k⟩ := h
    refine ⟨_, (pss_one (ps_ret (pe_ix (ixL K) (pv 1) (pe_c (ok__law_next (P := P) (w := w) (base := base) T) hr (by decide) rfl pass0 (pa_cons (pv 0) (pa_cons (pe_callB (lenSq K) rfl T.f_len bt_len (pa_cons (pv 1) pa_nil)) pa_nil))) (fun _ _ => rfl)))), ?_⟩
    refine ⟨_, rfl, _, rfl, _, rfl, _, _, rfl, .inl hp.now, d, xs.length, S, rfl, hd, x0, x1, fun r H1 hr e1 hd1 => ?_⟩
    obtain ⟨x, hx⟩ : ∃ x, xs[r]? = some x := ⟨xs[r], by simp [hr]⟩
    exact ⟨_, _, _, _, rfl, rfl, hp _ e1, atI_nat hx, k x H1 (List.mem_of_getElem? hx) e1 hd1⟩
theorem ok__law_names (T : Txt K mg) : Cal P w K mg base CX0 1 "_law_names" (spLNames K) := by
  refine cal0 (N := ["_law_grammar_here", "_law_one"]) T.D__law_names T.g__law_names sc__law_names (fun vs H Q E h => ?_) fun cdv A outer s H vs Q E hr h => ?_
  · obtain ⟨_, _, rfl, _⟩ := h; rfl
  · obtain ⟨v, g, rfl, hg, g6, k⟩ := h
    refine ⟨_, (pss_one (ps_ret (pe_lc (own := [("_law_one", 1)]) (g := gName 1) (tt := tYes) rfl sc__law_names.nd (pi_tup (pe_ix (ixT K) (pv 0) pe_int (fun _ _ => rfl))) (blkOk_by (N := ["_law_grammar_here", "_law_one"]) (sc := defScope s__law_names) (by decide +kernel)) (fun _ _ _ _ _ => (pg_name (i := 1) sc__law_names.nd rfl (Or.inl rfl))) (fun _ _ _ _ _ => pts_nil) (fun _ _ _ _ _ => (pe_ix (ixT K) (pv 1) pe_int (fun _ _ => rfl)))))), ?_⟩
    obtain ⟨p, x, y, z, rfl, h1, ⟨p1, xs, rfl, h2, hl⟩, _⟩ := hg
    refine s_retN (R := rStr) (as := names g) (evn_lcT1 (K := K) (R := rOption K) (S := rStr) (as := g.1) (·.1) (fun H1 e1 Q q => ?_) ?_ mOption mStr (fun _ => rfl) fun x o H1 D l ho e1 hD0 hD hx => evr_at bStr hD fun H2 e2 Q q => ?_) k
    · exact ⟨_, rfl, _, _, _, _, rfl, rfl, ex_t e1 h1, at0 rfl, q _ H1 (Ex.refl _) ⟨_, _, rfl, ex_t e1 h2, hl.mono mOption e1⟩⟩
    · unfold names at g6
      rw [List.length_map] at g6
      omega
    · obtain ⟨po, y1, y2, y3, rfl, hpo, h1, h2, h3⟩ := hx
      exact ⟨_, rfl, _, _, _, _, rfl, rfl, ex_t e2 hpo, at0 rfl, q _ H2 (Ex.refl _) h1⟩
end
end K19

/-! ## K19Lb -/
set_option Elab.async false
set_option linter.all false
set_option maxRecDepth 100000
set_option maxHeartbeats 4000000
namespace K19
open PySem PySem.Spec PyProof.Rows L2 Evl



theorem sc__law_kind : FnScope ["_law_d", "_law_low", "_law_word", "_law_some"] p__law_kind (defScope s__law_kind) := ⟨rfl, rfl, rfl, by decide +kernel, rfl, by decide +kernel, by decide +kernel⟩
theorem sc__law_clauses : FnScope ["_law_d", "_law_names_here", "_law_most", "_law_words", "_law_found", "_law_k"] p__law_clauses (defScope s__law_clauses) := ⟨rfl, rfl, rfl, by decide +kernel, rfl, by decide +kernel, by decide +kernel⟩
theorem sc__law_given : FnScope ["_law_d", "_law_grammar_here", "_law_most", "_law_found", "_law_k"] p__law_given (defScope s__law_given) := ⟨rfl, rfl, rfl, by decide +kernel, rfl, by decide +kernel, by decide +kernel⟩
theorem cr_listStr {X : Cx} (hc : X.calm = true) : CallR X (.type "list") (fun xs H Q => ∃ z, xs = [.str z] ∧ z.cps.size ≤ sizeLine ∧ ∀ l, H l = none → Q (.ref l) (upd H l (.lst (z.cps.toList.map fun c => V.str ⟨#[c]⟩)))) := by
  intro pins s σ H xs us Q I r h
  obtain ⟨z, e, hz, q⟩ := h
  subst e
  obtain ⟨u, eu, rx⟩ := vals1 r
  subst eu
  obtain ⟨t, rfl⟩ := rx
  refine call_list_str (I.ok.hd hc) z t (hn := hz) fun h' tk acc c' hk hS hacc => ?_
  refine ⟨.ref s.heap.objs.size, upd H s.heap.objs.size (.lst (z.cps.toList.map fun c => V.str ⟨#[c]⟩)), I.laid (t' := tk) hk (Nat.le_refl _) (show ObjOk X.prog X.w _ _ _ (.lst _) from ⟨?_, acc.toList, c', ?_, ?_⟩), rfl, q _ (I.hok.fresh (Nat.le_refl _))⟩
  · rw [List.length_map]; simpa using hz
  · refine vals_of_at (by rw [List.length_map]; simpa using hacc.1.symm) fun j x w h1 h2 => ?_
    obtain ⟨c, u, h3, rfl⟩ := hacc.2 j w (by rw [← Array.getElem?_toList]; exact h2)
    rw [List.getElem?_map, Array.getElem?_toList, h3] at h1
    cases h1
    exact ⟨u, rfl⟩
  · rw [Array.toArray_toList]; exact hS
/-! ### more than one thing changes -/
def ExS (L : List Addr) (H H' : Hp) : Prop := ∀ a o, a ∉ L → H a = some o → H' a = some o
theorem ExS.refl {L : List Addr} {H : Hp} : ExS L H H := fun _ _ _ h => h
theorem ExS.trans {L : List Addr} {H H1 H2 : Hp} (a : ExS L H H1) (b : ExS L H1 H2) : ExS L H H2 := fun x o n h => b x o n (a x o n h)
theorem ExS.of {L : List Addr} {H H1 : Hp} (a : Ex H H1) : ExS L H H1 := fun x o _ h => a x o h
theorem ExS.ofB {L : List Addr} {d : Addr} {H H1 : Hp} (a : ExB d H H1) (h : d ∈ L) : ExS L H H1 := fun x o n y => a x o (fun z => n (z ▸ h)) y
theorem ExS.upd {L : List Addr} {d : Addr} {H : Hp} {o : HO} (h : d ∈ L) : ExS L H (upd H d o) := fun x _ n y => by rw [upd_ne (fun z => n (by rw [z]; exact h))]; exact y
/-- what is new does not count -/
theorem ExS.back {L : List Addr} {d : Addr} {H H1 : Hp} (a : ExS L H H1) (n : ∀ x ∈ L, x ≠ d → H x = none) : ExB d H H1 := fun x o ne h => a x o (fun m => by rw [n x m ne] at h; cases h) h
def LsS (L : List Addr) (H : Hp) : Prop := ∀ a ∈ L, ∃ l, H a = some (.lst l)
def SMono {α : Type} (R : DR α) : Prop := ∀ L H H' v a, LsS L H → ExS L H H' → R H v a → R H' v a
theorem sqt_s {K : PySem.W.Frag} {L : List Addr} {H H' : Hp} {p : Addr} {xs : List V} (l : LsS L H) (e : ExS L H H') (h : SqT K H p xs) : SqT K H' p xs := by
  have n : ∀ o, H p = some o → (∀ l, o ≠ .lst l) → p ∉ L := fun o ho hl m => by
    obtain ⟨l, hl2⟩ := l _ m
    rw [ho] at hl2
    cases hl2
    exact hl _ rfl
  rcases h with (h | ⟨o, h⟩) | h
  · exact .inl (.inl (e _ _ (n _ h fun l z => by cases z) h))
  · exact .inl (.inr ⟨o, e _ _ (n _ h fun l z => by cases z) h⟩)
  · exact .inr h
theorem sStr : SMono rStr := fun _ _ _ _ _ _ _ h => h
theorem sInt : SMono rInt := fun _ _ _ _ _ _ _ h => h
theorem sTpl {α : Type} {K : PySem.W.Frag} {R : DR α} (m : SMono R) : SMono (rTpl K R) := fun L H H' v a l e ⟨p, xs, h1, h2, h3⟩ => ⟨p, xs, h1, sqt_s l e h2, h3.imp fun v a => m L H H' v a l e⟩
theorem sT2 {α β : Type} {K : PySem.W.Frag} {R : DR α} {S : DR β} (m : SMono R) (n : SMono S) : SMono (rT2 K R S) := fun L H H' _ _ l e ⟨p, x, y, h1, h2, h3, h4⟩ => ⟨p, x, y, h1, sqt_s l e h2, m L H H' _ _ l e h3, n L H H' _ _ l e h4⟩
theorem sT3 {α β γ : Type} {K : PySem.W.Frag} {R : DR α} {S : DR β} {T : DR γ} (m : SMono R) (n : SMono S) (o : SMono T) : SMono (rT3 K R S T) := fun L H H' _ _ l e ⟨p, x, y, z, h1, h2, h3, h4, h5⟩ => ⟨p, x, y, z, h1, sqt_s l e h2, m L H H' _ _ l e h3, n L H H' _ _ l e h4, o L H H' _ _ l e h5⟩
theorem sKd {K : PySem.W.Frag} : SMono (rKd K) := fun L H H' v k l e h => by
  cases k with
  | non => exact h
  | word => obtain ⟨p, h1, h2⟩ := h; exact ⟨p, h1, sqt_s l e h2⟩
  | int lo hi => obtain ⟨p, h1, h2⟩ := h; exact ⟨p, h1, sqt_s l e h2⟩
  | choice ws => obtain ⟨p, q, h1, h2, h3⟩ := h; exact ⟨p, q, h1, sqt_s l e h2, sTpl sStr _ _ _ _ _ l e h3⟩
theorem sOption {K : PySem.W.Frag} : SMono (rOption K) := sT3 sStr sStr sKd
theorem sCl {K : PySem.W.Frag} : SMono (rCl K) := sT3 sStr sStr sStr
theorem sGram {K : PySem.W.Frag} : SMono (rGram K) := sT3 (sTpl sOption) (sT2 sInt sInt) (sTpl sCl)
theorem LR.smono {α : Type} {R : DR α} (m : SMono R) {L : List Addr} {H H' : Hp} {xs : List V} {as : List α} (h : LR R H xs as) (l : LsS L H) (e : ExS L H H') : LR R H' xs as := h.imp fun v a => m L H H' v a l e
theorem LsS.one {K : PySem.W.Frag} {d : Addr} {S : Addr × List Int} {H : Hp} (h : Dice K d S H) : LsS [d] H := fun a m => by
  simp at m
  subst m
  obtain ⟨_, _, _, h1, _⟩ := h
  exact ⟨_, h1⟩
theorem exs1 {d : Addr} {H H' : Hp} (e : ExB d H H') : ExS [d] H H' := ExS.ofB e (by simp)
theorem Dice.lst {K : PySem.W.Frag} {d : Addr} {S : Addr × List Int} {H : Hp} (h : Dice K d S H) : ∃ l, H d = some (.lst l) := let ⟨_, _, _, h1, _⟩ := h; ⟨_, h1⟩
theorem cutV_take (xs : List V) (i : Nat) : cutV xs none (some (i : Int)) = xs.take i := by
  unfold cutV
  rw [HT.sIx_nat, HT.sIx_none, List.drop_zero, Nat.sub_zero]
  rcases Nat.le_total i xs.length with h | h
  · rw [Nat.min_eq_left h]
  · rw [Nat.min_eq_right h, List.take_of_length_le (Nat.le_refl _), List.take_of_length_le h]
theorem Dice.ne {K : PySem.W.Frag} {d p : Addr} {S : Addr × List Int} {H : Hp} (h : Dice K d S H) (hp : H p = none) : p ≠ d := fun z => by
  obtain ⟨l, hl⟩ := h.lst
  rw [z, hl] at hp
  cases hp
/-! ### kinds, clauses -/
def spLKind (K : PySem.W.Frag) : Sp := fun vs H Q _ => ∃ (d : Addr) (S : Addr × List Int), vs = [.ref d] ∧ Dice K d S H ∧ ∀ v k H', KdOk k → ExB d H H' → Dice K d S H' → rKd K H' v k → Q v H'
def spLClauses (K : PySem.W.Frag) : Sp := fun vs H Q _ => ∃ (d pn : Addr) (ns : List Str) (S : Addr × List Int), vs = [.ref d, .ref pn, .int 6] ∧ Dice K d S H ∧ SqB K d H pn (ns.map V.str) ∧ 0 < ns.length ∧ ns.length ≤ 6 ∧ ∀ v cs H', cs.length ≤ 6 → (∀ c ∈ cs, ClOk ns c) → ExB d H H' → Dice K d S H' → rTpl K (rCl K) H' v cs → Q v H'
theorem ExB.mut {d f : Addr} {H H1 : Hp} {o : HO} (e : ExB d H H1) (h : H f = none) : ExB d H (L2.upd H1 f o) := fun x y n z => by
  rw [upd_ne (fun q => by rw [q, h] at z; cases z)]
  exact e x y n z
theorem Dice.mut {K : PySem.W.Frag} {d f : Addr} {S : Addr × List Int} {H H1 : Hp} {o : HO} (h0 : Dice K d S H) (h : Dice K d S H1) (e : ExB d H H1) (n : H f = none) : Dice K d S (L2.upd H1 f o) := by
  obtain ⟨x0, y0, z0, hd0, hs0, _⟩ := h0
  obtain ⟨x, y, z, h2, _, h4, h5⟩ := h
  have nf : d ≠ f := fun q => by rw [← q, hd0] at n; cases n
  exact ⟨x, y, z, by rw [upd_ne nf]; exact h2, hs0.go (e.mut n), h4, h5⟩
def words4 : List Str := ["fast", "slow", "a", "abcdefghijkl"]
theorem word4_ok : ∀ z ∈ words4, WordOk z := by
  unfold WordOk
  decide +kernel
theorem words4_nodup : words4.Nodup := by decide +kernel
section
variable {P : Program} {w : World} {K : PySem.W.Frag} {mg : Str → Option Value} {base : Heap}
theorem ok__law_kind (T : Txt K mg) : Cal P w K mg base CX0 3 "_law_kind" (spLKind K) := by
  refine cal0 (N := ["_law_d", "_law_low", "_law_word", "_law_some"]) T.D__law_kind T.g__law_kind sc__law_kind (fun vs H Q E h => ?_) fun cdv A outer s H vs Q E hr h => ?_
  · obtain ⟨_, _, rfl, _⟩ := h; rfl
  · obtain ⟨d, S, rfl, hd, k⟩ := h
    refine ⟨_, (pss_cons (ps_set (i := 1) sc__law_kind.nd rfl (Or.inl rfl) (pe_op op_sub (pe_c (ok__law_next (P := P) (w := w) (base := base) T) hr (by decide) rfl pass0 (pa_cons (pv 0) (pa_cons pe_int pa_nil))) pe_int))
      (pss_cons (ps_set (i := 2) sc__law_kind.nd rfl (Or.inl rfl) (pe_slice sl_list (pe_lst (pa_cons pe_str (pa_cons pe_str (pa_cons pe_str (pa_cons pe_str pa_nil))))) po_none (po_some (pe_op op_add pe_int (pe_c (ok__law_next (P := P) (w := w) (base := base) T) hr (by decide) rfl pass0 (pa_cons (pv 0) (pa_cons pe_int pa_nil)))))))
      (pss_cons (ps_set (i := 3) sc__law_kind.nd rfl (Or.inl rfl) (pe_lst (pa_cons pe_non (pa_cons pe_non (pa_cons (pe_tup (pa_cons pe_str pa_nil)) (pa_cons (pe_tup (pa_cons pe_str (pa_cons (pv 1) (pa_cons (pe_op op_sub pe_int (pe_c (ok__law_next (P := P) (w := w) (base := base) T) hr (by decide) rfl pass0 (pa_cons (pv 0) (pa_cons (pe_op op_sub pe_int (pv 1)) pa_nil)))) pa_nil)))) (pa_cons (pe_tup (pa_cons pe_str (pa_cons (pe_callTy (cr_tupleOf K) rfl T.f_tuple bt_tuple (pa_cons (pv 2) pa_nil)) pa_nil))) pa_nil)))))))
      (pss_one (ps_ret (pe_c (ok__law_pick (P := P) (w := w) (base := base) T) hr (by decide) rfl pass0 (pa_cons (pv 0) (pa_cons (pv 3) pa_nil)))))))), ?_⟩
    refine ⟨_, rfl, d, 19999, S, rfl, hd, by decide, by decide, fun r H1 hr e1 hd1 => ?_⟩
    refine ⟨_, _, rfl, rfl, ?_⟩
    refine ⟨by show 4 ≤ sizeLine; decide, fun p hp => ?_⟩
    have e2 := Ex.new (o := .lst (words4.map V.str)) hp
    refine ⟨_, rfl, d, 4, S, rfl, hd1.mono e2, by decide, by decide, fun r2 H3 hr2 e3 hd3 => ?_⟩
    have hp3 : H3 p = some (.lst (words4.map V.str)) := e3 _ _ (hd1.ne hp) upd_same
    refine ⟨_, _, rfl, rfl, _, rfl, _, _, rfl, sq_of hp3, fun q hq => ?_⟩
    have eq : ((1 : Int) + (r2 : Int)) = ((1 + r2 : Nat) : Int) := by omega
    rw [eq, cutV_take, ← List.map_take]
    have e4 := Ex.new (o := .lst ((words4.take (1 + r2)).map V.str)) hq
    have hd4 := hd3.mono e4
    generalize hH4 : upd H3 q _ = H4 at e4 hd4
    have hq4 : H4 q = some (.lst ((words4.take (1 + r2)).map V.str)) := by rw [← hH4]; exact upd_same
    have nq := hd3.ne hq
    refine ⟨by show 1 ≤ sizeLine; decide, fun p1 hp1 => ?_⟩
    have e5 := Ex.new (o := .tup [V.str "word"]) hp1
    refine ⟨_, rfl, _, rfl, _, rfl, _, _, rfl, rfl, d, 19999 - r, S, ?_, hd4.mono e5, by omega, by omega, fun r3 H6 hr3 e6 hd6 => ?_⟩
    · show [V.ref d, V.int (10000 - ((r : Int) - 9999))] = [V.ref d, V.int ((19999 - r : Nat) : Int)]
      have : (10000 : Int) - ((r : Int) - 9999) = ((19999 - r : Nat) : Int) := by omega
      rw [this]
    refine ⟨_, _, rfl, rfl, by show 3 ≤ sizeLine; decide, fun p2 hp2 => ?_⟩
    have e7 := Ex.new (o := .tup [V.str "int", V.int ((r : Int) - 9999), V.int (9999 - (r3 : Int))]) hp2
    have hq7 := e7 _ _ (e6 _ _ nq (e5 _ _ hq4))
    refine ⟨_, rfl, _, _, rfl, .inl ⟨sq_of hq7, fun p3 hp3 => ?_⟩⟩
    have e8 := Ex.new (o := .tup ((words4.take (1 + r2)).map V.str)) hp3
    refine ⟨by show 2 ≤ sizeLine; decide, fun p4 hp4 => ?_⟩
    have e9 := Ex.new (o := .tup [V.str "choice", V.ref p3]) hp4
    refine ⟨by show 5 ≤ sizeLine; decide, fun p5 hp5 => ?_⟩
    have e10 := Ex.new (o := .lst [V.non, V.non, V.ref p1, V.ref p2, V.ref p4]) hp5
    have e7a := (e7.trans e8).trans (e9.trans e10)
    have hdz := hd6.mono e7a
    have nd : p5 ≠ d := ((hd6.mono ((e7.trans e8).trans e9))).ne hp5
    refine ⟨_, rfl, _, rfl, d, p5, _, S, rfl, hdz, SqB.ne (sq_of upd_same) nd, by show 0 < 5; decide, by show 5 ≤ 100000; decide, fun x H' hx e11 hd' => ?_⟩
    have n1 : p1 ≠ d := hd4.ne hp1
    have n2 : p2 ≠ d := hd6.ne hp2
    have n3 : p3 ≠ d := (hd6.mono e7).ne hp3
    have n4 : p4 ≠ d := (hd6.mono (e7.trans e8)).ne hp4
    have t1 : H' p1 = some (.tup [V.str "word"]) := e11 _ _ n1 (e7a _ _ (e6 _ _ n1 upd_same))
    have t2 : H' p2 = some (.tup [V.str "int", V.int ((r : Int) - 9999), V.int (9999 - (r3 : Int))]) := e11 _ _ n2 ((e8.trans (e9.trans e10)) _ _ upd_same)
    have t3 : H' p3 = some (.tup ((words4.take (1 + r2)).map V.str)) := e11 _ _ n3 ((e9.trans e10) _ _ upd_same)
    have t4 : H' p4 = some (.tup [V.str "choice", V.ref p3]) := e11 _ _ n4 (e10 _ _ upd_same)
    have eb : ExB d H H' := (e1.trans ((ExB.of e2).trans (e3.trans ((ExB.of (e4.trans e5)).trans (e6.trans (ExB.of e7a)))))).trans e11
    simp only [List.mem_cons, List.not_mem_nil, or_false] at hx
    rcases hx with rfl | rfl | rfl | rfl | rfl
    · exact k _ .non H' trivial eb hd' rfl
    · exact k _ .non H' trivial eb hd' rfl
    · exact k _ .word H' trivial eb hd' ⟨p1, rfl, st_of t1⟩
    · exact k _ (.int ((r : Int) - 9999) (9999 - (r3 : Int))) H' ⟨by omega, by omega, by omega⟩ eb hd' ⟨p2, rfl, st_of t2⟩
    · refine k _ (.choice (words4.take (1 + r2))) H' ⟨?_, ?_, fun z hz => word4_ok z (List.mem_of_mem_take hz), words4_nodup.sublist (List.take_sublist _ _)⟩ eb hd' ⟨p4, .ref p3, rfl, st_of t4, p3, _, rfl, st_of t3, lr_strOf _⟩
      · rw [List.length_take]; show 1 ≤ min (1 + r2) 4; omega
      · rw [List.length_take]; show min (1 + r2) 4 ≤ 8; omega
theorem ok__law_clauses (T : Txt K mg) : Cal P w K mg base CX0 3 "_law_clauses" (spLClauses K) := by
  refine cal0 (N := ["_law_d", "_law_names_here", "_law_most", "_law_words", "_law_found", "_law_k"]) T.D__law_clauses T.g__law_clauses sc__law_clauses (fun vs H Q E h => ?_) fun cdv A outer s H vs Q E hr h => ?_
  · obtain ⟨_, _, _, _, rfl, _⟩ := h; rfl
  · obtain ⟨d, pn, ns, S, rfl, hd, hs, n0, n6, k⟩ := h
    refine ⟨_, (pss_cons (ps_set (i := 3) sc__law_clauses.nd rfl (Or.inl rfl) (pe_ix (ixL K) (pe_lst (pa_cons (pe_lst (pa_cons pe_str pa_nil)) (pa_cons (pe_lst (pa_cons pe_str (pa_cons pe_str pa_nil))) (pa_cons (pe_lst (pa_cons pe_str (pa_cons pe_str (pa_cons pe_str pa_nil)))) (pa_cons (pe_lst (pa_cons pe_str pa_nil)) pa_nil))))) (pe_op op_fdiv (pe_c (ok__law_next (P := P) (w := w) (base := base) T) hr (by decide) rfl pass0 (pa_cons (pv 0) (pa_cons pe_int pa_nil))) pe_int) (fun _ _ => rfl)))
      (pss_cons (ps_set (i := 4) sc__law_clauses.nd rfl (Or.inl rfl) (pe_lst pa_nil))
      (pss_cons (ps_for PassesOwn.never rfl (pi_range1 rfl T.f_range (pa_cons (pe_c (ok__law_next (P := P) (w := w) (base := base) T) hr (by decide) rfl pass0 (pa_cons (pv 0) (pa_cons (pe_op op_add (pv 2) pe_int) pa_nil))) pa_nil)) (pg_name (i := 5) sc__law_clauses.nd rfl (Or.inl rfl)) (pss_one (ps_expr (pe_bm PySem.F.plainAttrs_list PySem.F.slot_list_append PySem.F.type_list_append mt_append (pv 4) (pa_cons (pe_tup (pa_cons (pe_c (ok__law_pick (P := P) (w := w) (base := base) T) hr (by decide) rfl pass0 (pa_cons (pv 0) (pa_cons (pv 3) pa_nil))) (pa_cons (pe_c (ok__law_pick (P := P) (w := w) (base := base) T) hr (by decide) rfl pass0 (pa_cons (pv 0) (pa_cons (pv 1) pa_nil))) (pa_cons (pe_c (ok__law_pick (P := P) (w := w) (base := base) T) hr (by decide) rfl pass0 (pa_cons (pv 0) (pa_cons (pv 1) pa_nil))) pa_nil)))) pa_nil)))))
      (pss_one (ps_ret (pe_callTy (cr_tupleOf K) rfl T.f_tuple bt_tuple (pa_cons (pv 4) pa_nil))))))), ?_⟩
    refine ⟨by show 1 ≤ sizeLine; decide, fun p1 hp1 => ⟨by show 2 ≤ sizeLine; decide, fun p2 hp2 => ⟨by show 3 ≤ sizeLine; decide, fun p3 hp3 => ⟨by show 1 ≤ sizeLine; decide, fun p4 hp4 => ⟨by show 4 ≤ sizeLine; decide, fun p5 hp5 => ?_⟩⟩⟩⟩⟩
    have e1 := Ex.new (o := .lst [V.str "needs"]) hp1
    have e2 := Ex.new (o := .lst [V.str "needs", V.str "excludes"]) hp2
    have e3 := Ex.new (o := .lst [V.str "needs", V.str "excludes", V.str "either"]) hp3
    have e4 := Ex.new (o := .lst [V.str "either"]) hp4
    have e5 := Ex.new (o := .lst [V.ref p1, V.ref p2, V.ref p3, V.ref p4]) hp5
    have d1 := hd.mono e1
    have d2 := d1.mono e2
    have d3 := d2.mono e3
    have d4 := d3.mono e4
    have d5 := d4.mono e5
    have n1 := hd.ne hp1
    have n2 := d1.ne hp2
    have n3 := d2.ne hp3
    have n4 := d3.ne hp4
    have n5 := d4.ne hp5
    have e05 := e1.trans (e2.trans (e3.trans (e4.trans e5)))
    refine ⟨_, rfl, d, 8, S, rfl, d5, by decide, by decide, fun r H6 hr e6 hd6 => ?_⟩
    have e06 : ExB d H H6 := (ExB.of e05).trans e6
    have hp56 := e6 _ _ n5 upd_same
    have w1 : H6 p1 = some (.lst [V.str "needs"]) := e6 _ _ n1 ((e2.trans (e3.trans (e4.trans e5))) _ _ upd_same)
    have w2 : H6 p2 = some (.lst [V.str "needs", V.str "excludes"]) := e6 _ _ n2 ((e3.trans (e4.trans e5)) _ _ upd_same)
    have w3 : H6 p3 = some (.lst [V.str "needs", V.str "excludes", V.str "either"]) := e6 _ _ n3 ((e4.trans e5) _ _ upd_same)
    have w4 : H6 p4 = some (.lst [V.str "either"]) := e6 _ _ n4 (e5 _ _ upd_same)
    clear hp1 hp2 hp3 hp4 hp5 e1 e2 e3 e4 e5 d1 d2 d3 d4 d5 e05 e6
    have key : ∃ (pw : Addr) (ws : List Str), atI [V.ref p1, V.ref p2, V.ref p3, V.ref p4] ((r : Int) / 2) = some (V.ref pw) ∧ H6 pw = some (.lst (ws.map V.str)) ∧ pw ≠ d ∧ 0 < ws.length ∧ ws.length ≤ 3 ∧ ∀ z ∈ ws, z ∈ words3 := by
      have er : (r : Int) / 2 = ((r / 2 : Nat) : Int) := by omega
      rw [er]
      have : r / 2 = 0 ∨ r / 2 = 1 ∨ r / 2 = 2 ∨ r / 2 = 3 := by omega
      rcases this with h | h | h | h <;> rw [h]
      · exact ⟨p1, ["needs"], atI_nat rfl, w1, n1, by decide, by decide, by decide +kernel⟩
      · exact ⟨p2, ["needs", "excludes"], atI_nat rfl, w2, n2, by decide, by decide, by decide +kernel⟩
      · exact ⟨p3, ["needs", "excludes", "either"], atI_nat rfl, w3, n3, by decide, by decide, by decide +kernel⟩
      · exact ⟨p4, ["either"], atI_nat rfl, w4, n4, by decide, by decide, by decide +kernel⟩
    obtain ⟨pw, ws, hpw, hw, nw, ws0, ws3, hws⟩ := key
    refine ⟨_, _, rfl, rfl, ⟨by decide, by decide⟩, _, _, _, _, rfl, rfl, sq_of hp56, hpw, ?_⟩
    refine ⟨by show 0 ≤ sizeLine; decide, fun f hf => ?_⟩
    have e7 := Ex.new (o := .lst []) hf
    have nf := hd6.ne hf
    refine ⟨_, rfl, _, rfl, _, _, rfl, rfl, d, 7, S, rfl, hd6.mono e7, by decide, by decide, fun m H8 hm e8 hd8 => ?_⟩
    have e68 : ExB d H6 H8 := (ExB.of e7).trans e8
    refine ⟨(m : Int), rfl, by omega, by omega, ?_⟩
    refine for_range (lo := 0) (n := ((m : Int)).toNat) (fun (i : Nat) (σ' : L2.St) (H' : Hp) => ∃ (o5 : Option V), σ' = [some (.ref d), some (.ref pn), some (.int 6), some (.ref pw), some (.ref f), o5] ∧ ExB d H6 H' ∧ Dice K d S H' ∧ ∃ ys cs, H' f = some (.lst ys) ∧ LR (rCl K) H' ys cs ∧ cs.length = i ∧ ∀ c ∈ cs, ClOk ns c) ⟨none, rfl, e68, hd8, [], [], e8 _ _ nf upd_same, .nil, rfl, by simp⟩ ?_ ?_
    · rintro i σ' H9 hi ⟨o5, rfl, e9, hd9, ys, cs, hf9, hl9, cl, hcs⟩
      refine g_go ?_
      have hwB : SqB K d H6 pw (ws.map V.str) := SqB.ne (sq_of hw) nw
      refine ⟨_, rfl, .inl ⟨rfl, _, sq_of hf9⟩, _, rfl, _, rfl, d, pw, _, S, rfl, hd9, hwB.go e9, by rw [List.length_map]; exact ws0, by rw [List.length_map]; omega, fun x1 H10 hx1 e10 hd10 => ?_⟩
      refine ⟨_, rfl, _, rfl, d, pn, _, S, rfl, hd10, (hs.go e06).go (e9.trans e10), by rw [List.length_map]; exact n0, by rw [List.length_map]; omega, fun x2 H11 hx2 e11 hd11 => ?_⟩
      refine ⟨_, rfl, _, rfl, d, pn, _, S, rfl, hd11, (hs.go e06).go ((e9.trans e10).trans e11), by rw [List.length_map]; exact n0, by rw [List.length_map]; omega, fun x3 H12 hx3 e12 hd12 => ?_⟩
      obtain ⟨z1, hz1, rfl⟩ := List.mem_map.mp hx1
      obtain ⟨z2, hz2, rfl⟩ := List.mem_map.mp hx2
      obtain ⟨z3, hz3, rfl⟩ := List.mem_map.mp hx3
      refine ⟨by show 3 ≤ sizeLine; decide, fun pt hpt => ?_⟩
      have e13 := Ex.new (o := .tup [V.str z1, V.str z2, V.str z3]) hpt
      have e913 : ExB d H9 _ := ((e10.trans e11).trans e12).trans (ExB.of e13)
      have hd13 := hd12.mono e13
      have hf13 := e913 _ _ nf hf9
      have hl13 := hl9.smono sCl (LsS.one hd9) (exs1 e913)
      have rt : rCl K (L2.upd H12 pt (.tup [V.str z1, V.str z2, V.str z3])) (.ref pt) (z1, z2, z3) := ⟨pt, _, _, _, rfl, st_of upd_same, rfl, rfl, rfl⟩
      generalize L2.upd H12 pt (.tup [V.str z1, V.str z2, V.str z3]) = H13 at e13 e913 hd13 hf13 hl13 rt
      have yl := hl9.length
      refine ⟨f, ys, _, rfl, rfl, hf13, sz_lt (by omega), _, rfl, (e9.trans e913).mut hf, hd6.mut hd13 (e9.trans e913) hf, ys ++ [.ref pt], cs ++ [(z1, z2, z3)], upd_same, ?_, by simp [cl], fun c hc => ?_⟩
      · exact (hl13.imp fun v a h => bCl H13 f ys _ v a hf13 h).snoc (bCl H13 f ys _ _ _ hf13 rt)
      · rcases List.mem_append.mp hc with hc | hc
        · exact hcs c hc
        · simp at hc
          subst hc
          exact ⟨hws _ hz1, hz2, hz3⟩
    · rintro σ' H9 ⟨o5, rfl, e9, hd9, ys, cs, hf9, hl9, cl, hcs⟩
      refine ⟨_, rfl, f, ys, rfl, .inl ⟨sq_of hf9, fun pt hpt => ?_⟩⟩
      have e10 := Ex.new (o := .tup ys) hpt
      exact k _ cs _ (by omega) hcs ((e06.trans e9).trans (ExB.of e10)) (hd9.mono e10) ⟨pt, ys, rfl, st_of upd_same, hl9.mono mCl e10⟩
end
end K19

/-! ## K19Lc -/
set_option Elab.async false
set_option linter.all false
set_option maxRecDepth 100000
set_option maxHeartbeats 4000000
namespace K19
open PySem PySem.Spec PyProof.Rows L2 Evl


theorem sc__law_grammar : FnScope ["_law_d", "_law_most", "_law_clauses_here", "_law_left", "_law_names_here", "_law_k", "_law_shorts", "_law_options", "_law_name", "_law_low"] p__law_grammar (defScope s__law_grammar) := ⟨rfl, rfl, rfl, by decide +kernel, rfl, by decide +kernel, by decide +kernel⟩
def spLGiven (K : PySem.W.Frag) : Sp := fun vs H Q _ => ∃ (d : Addr) (v : V) (g : Gram) (S : Addr × List Int), vs = [.ref d, v, .int 2] ∧ Dice K d S H ∧ rGram K H v g ∧ Good g ∧
  ∀ (p : Addr) (ns : List Str) H', (∀ z ∈ ns, z ∈ names g) → ns.length ≤ 2 → ExB d H H' → Dice K d S H' → (SqL K H' p (ns.map V.str) ∨ SqT K H' p (ns.map V.str)) → Q (.ref p) H'
def names12 : List Str := ["sign", "key", "raw", "a", "b-c", "quiet", "z", "longest-name", "x--y", "m", "key-file", "up"]
theorem names12_ok : ∀ z ∈ names12, NameOk z := by
  intro z hz
  simp only [names12, List.mem_cons, List.not_mem_nil, or_false] at hz
  rcases hz with rfl | rfl | rfl | rfl | rfl | rfl | rfl | rfl | rfl | rfl | rfl | rfl <;> exact ⟨by decide +kernel, by decide +kernel, ⟨_, rfl, by decide +kernel⟩, ⟨_, rfl, by decide +kernel⟩, by decide +kernel⟩
theorem names12_nodup : names12.Nodup := by decide +kernel
def letters : List Str := ("abcdefghijkl" : Str).cps.toList.map fun c => (⟨#[c]⟩ : Str)
theorem letters_ok : ∀ z ∈ letters, ShortOk z ∧ z ≠ "" := by
  unfold ShortOk
  decide +kernel
theorem letters_nodup : letters.Nodup := by decide +kernel
theorem letters_len : letters.length = 12 := by decide +kernel
theorem at_drop {α : Type} {l : List α} {i : Nat} {z : α} (h : l[12 - i - 1]? = some z) : z ∈ l.drop (12 - (i + 1)) := by
  rw [Nat.sub_sub] at h
  refine List.mem_of_getElem? (i := 0) ?_
  rw [List.getElem?_drop]
  exact h
theorem drop_more {α : Type} {l : List α} {i : Nat} {z : α} (h : z ∈ l.drop (12 - i)) : z ∈ l.drop (12 - (i + 1)) := by
  obtain ⟨j, hj⟩ := List.mem_iff_getElem?.mp h
  rw [List.getElem?_drop] at hj
  refine List.mem_of_getElem? (i := 12 - i + j - (12 - (i + 1))) ?_
  rw [List.getElem?_drop, ← hj]
  congr 1
  omega
theorem new_letter {i : Nat} {z : Str} (hi : i < 12) (h : letters[12 - i - 1]? = some z) : z ∉ letters.drop (12 - i) := fun hm => by
  have nd := letters_nodup
  rw [← List.take_append_drop (12 - i) letters] at nd
  have hz : z ∈ letters.take (12 - i) := by
    refine List.mem_of_getElem? (i := 12 - i - 1) ?_
    rw [List.getElem?_take_of_lt (by omega), h]
  exact (List.nodup_append.mp nd).2.2 z hz z hm rfl
theorem short_nil : ShortOk "" := by
  unfold ShortOk
  decide +kernel
theorem map_erase {α β : Type} (f : α → β) : ∀ (l : List α) (i : Nat), (l.map f).eraseIdx i = (l.eraseIdx i).map f
  | [], _ => rfl
  | _ :: _, 0 => rfl
  | x :: l, i + 1 => by
    show f x :: (l.map f).eraseIdx i = f x :: (l.eraseIdx i).map f
    rw [map_erase f l i]
theorem erase_perm {α : Type} : ∀ (l : List α) (i : Nat) (z : α), l[i]? = some z → (z :: l.eraseIdx i).Perm l
  | [], _, _, h => by simp at h
  | x :: l, 0, z, h => by
    simp at h
    subst h
    exact List.Perm.refl _
  | x :: l, i + 1, z, h => by
    show (z :: x :: l.eraseIdx i).Perm (x :: l)
    exact (List.Perm.swap x z _).trans ((erase_perm l i z h).cons x)
def spLGrammar (K : PySem.W.Frag) : Sp := fun vs H Q _ => ∃ (d : Addr) (S : Addr × List Int), vs = [.ref d, .int 6, .int 6] ∧ Dice K d S H ∧ ∀ v g H', Good g → ExB d H H' → Dice K d S H' → rGram K H' v g → Q v H'
theorem shortsOf_snoc (os : List Opt) (o : Opt) : shortsOf (os ++ [o]) = shortsOf os ++ (if o.2.1 = "" then [] else [o.2.1]) := by
  unfold shortsOf
  rw [List.map_append, List.filter_append]
  congr 1
  by_cases h : o.2.1 = ""
  · simp [h]
  · simp [h]
theorem SMono.rob {α : Type} {R : DR α} (m : SMono R) : Rob R := fun H D l ys v a hD h => m [D] H _ v a (fun x mx => by simp at mx; subst mx; exact ⟨_, hD⟩) (ExS.upd (by simp)) h
theorem good_sGram {K : PySem.W.Frag} {d : Addr} {S : Addr × List Int} {H H' : Hp} {v : V} {g : Gram} (h : rGram K H v g) (hd : Dice K d S H) (e : ExB d H H') : rGram K H' v g := sGram _ _ _ _ _ (LsS.one hd) (exs1 e) h
section
variable {P : Program} {w : World} {K : PySem.W.Frag} {mg : Str → Option Value} {base : Heap}
theorem ok__law_given (T : Txt K mg) : Cal P w K mg base CX0 3 "_law_given" (spLGiven K) := by
  refine cal0 (N := ["_law_d", "_law_grammar_here", "_law_most", "_law_found", "_law_k"]) T.D__law_given T.g__law_given sc__law_given (fun vs H Q E h => ?_) fun cdv A outer s H vs Q E hr h => ?_
  · obtain ⟨_, _, _, _, rfl, _⟩ := h; rfl
  · obtain ⟨d, v, g, S, rfl, hd, hg, G, k⟩ := h
    refine ⟨_, (pss_cons (ps_setLc (i := 3) (own := [("_law_k", 4)]) (g := gName 4) (tt := tYes) rfl sc__law_given.nd rfl rfl (sw_true rfl rfl rfl (by decide +kernel)) (pi_range1 rfl T.f_range (pa_cons (pe_c (ok__law_next (P := P) (w := w) (base := base) T) hr (by decide) rfl pass0 (pa_cons (pv 0) (pa_cons (pe_op op_add (pv 2) pe_int) pa_nil))) pa_nil)) (blkOk_by (N := ["_law_d", "_law_grammar_here", "_law_most", "_law_found", "_law_k"]) (sc := defScope s__law_given) (by decide +kernel)) (fun _ _ _ _ _ => (pg_name (i := 4) sc__law_given.nd rfl (Or.inl rfl))) (fun _ _ _ _ _ => pts_nil) (fun _ _ _ _ _ => (pe_c (ok__law_pick (P := P) (w := w) (base := base) T) hr (by decide) rfl pass0 (pa_cons (pv 0) (pa_cons (pe_c (ok__law_names (P := P) (w := w) (base := base) T) hr (by decide) rfl pass0 (pa_cons (pv 1) pa_nil)) pa_nil)))))
      (pss_one (ps_ret (pe_ifExp (pt_cmpR op_eq (pe_c (ok__law_next (P := P) (w := w) (base := base) T) hr (by decide) rfl pass0 (pa_cons (pv 0) (pa_cons pe_int pa_nil))) pe_int (nomark _)) (pv 3) (pe_callTy (cr_tupleOf K) rfl T.f_tuple bt_tuple (pa_cons (pv 3) pa_nil)))))), ?_⟩
    refine ⟨_, rfl, _, rfl, _, _, rfl, rfl, d, 3, S, rfl, hd, by decide, by decide, fun m H1 hm e1 hd1 => ?_⟩
    refine ⟨(m : Int), rfl, by omega, by omega, fun D hD => ?_⟩
    rw [show ((m : Int)).toNat = m from rfl]
    have nD := hd1.ne hD
    refine lc_it (walk_range (lo := 0) (n := m)) (fun (i : Nat) (H' : Hp) => ExB d H1 H' ∧ Dice K d S H' ∧ ∃ ns : List Str, H' D = some (.lst (ns.map V.str)) ∧ ns.length = i ∧ ∀ z ∈ ns, z ∈ names g) ⟨ExB.of (Ex.new hD), hd1.mono (Ex.new hD), [], upd_same, rfl, by simp⟩ (fun _ _ _ _ => trivial) ?_ ?_
    · rintro i x H2 H2' hi ⟨e2, hd2, ns, hD2, hl, hns⟩ ⟨rfl, rfl⟩
      refine ⟨rfl, yesT (iteT ?_)⟩
      have hg2 := good_sGram (good_sGram hg hd e1) hd1 e2
      have n1 := G.n1
      have n2 := G.n2
      refine ⟨_, rfl, _, rfl, v, g, rfl, hg2, by rw [names_len]; omega, fun p H3 xs hp e3 h3 hl3 => ?_⟩
      have hx := lr_strs hl3
      subst hx
      have hd3 := hd2.mono e3
      have nl := names_len (g := g)
      refine ⟨d, p, _, S, rfl, hd3, SqB.ne (sq_of h3) (hd2.ne hp), by rw [List.length_map]; omega, by rw [List.length_map]; omega, fun y H4 hy e4 hd4 => ?_⟩
      obtain ⟨z, hz, rfl⟩ := List.mem_map.mp hy
      have e24 : ExB d H2' H4 := (ExB.of e3).trans e4
      refine ⟨_, e24 _ _ nD hD2, ?_, (e2.trans e24).mut hD, hd1.mut hd4 (e2.trans e24) hD, ns ++ [z], by rw [upd_same, List.map_append]; rfl, by simp [hl], fun c hc => ?_⟩
      · rw [List.length_map]
        exact sz_lt (by omega)
      · rcases List.mem_append.mp hc with hc | hc
        · exact hns c hc
        · simp at hc
          subst hc
          exact hz
    · rintro H2 ⟨e2, hd2, ns, hD2, hl, hns⟩
      refine ⟨_, rfl, d, 2, S, rfl, hd2, by decide, by decide, fun r H3 hr e3 hd3 => ?_⟩
      have e13 := (e1.trans e2).trans e3
      have hD3 := e3 _ _ nD hD2
      refine ⟨rfl, ?_⟩
      by_cases hr0 : V.int (r : Int) = V.int 0
      · exact ⟨true, blT hr0, iteT ⟨_, rfl, k D ns H3 hns (by omega) e13 hd3 (.inl (sq_of hD3))⟩⟩
      · refine ⟨false, blF hr0, iteF ⟨_, rfl, _, _, rfl, .inl ⟨sq_of hD3, fun p hp => ?_⟩⟩⟩
        have e4 := Ex.new (o := .tup (ns.map V.str)) hp
        exact k p ns _ hns (by omega) (e13.trans (ExB.of e4)) (hd3.mono e4) (.inr (st_of upd_same))
theorem ok__law_grammar (T : Txt K mg) : Cal P w K mg base CX0 4 "_law_grammar" (spLGrammar K) := by
  refine cal0 (N := ["_law_d", "_law_most", "_law_clauses_here", "_law_left", "_law_names_here", "_law_k", "_law_shorts", "_law_options", "_law_name", "_law_low"]) T.D__law_grammar T.g__law_grammar sc__law_grammar (fun vs H Q E h => ?_) fun cdv A outer s H vs Q E hr h => ?_
  · obtain ⟨_, _, rfl, _⟩ := h; rfl
  · obtain ⟨d, S, rfl, hd, k⟩ := h
    refine ⟨_, (pss_cons (ps_set (i := 3) sc__law_grammar.nd rfl (Or.inr rfl) (pe_lst (pa_cons pe_str (pa_cons pe_str (pa_cons pe_str (pa_cons pe_str (pa_cons pe_str (pa_cons pe_str (pa_cons pe_str (pa_cons pe_str (pa_cons pe_str (pa_cons pe_str (pa_cons pe_str (pa_cons pe_str pa_nil))))))))))))))
      (pss_cons (ps_setLc (i := 4) (own := [("_law_k", 5)]) (g := gName 5) (tt := tYes) rfl sc__law_grammar.nd rfl rfl (sw_true rfl rfl rfl (by decide +kernel)) (pi_range1 rfl T.f_range (pa_cons (pe_op op_add pe_int (pe_c (ok__law_next (P := P) (w := w) (base := base) T) hr (by decide) rfl pass0 (pa_cons (pv 0) (pa_cons (pv 1) pa_nil)))) pa_nil)) (blkOk_by (N := ["_law_d", "_law_most", "_law_clauses_here", "_law_left", "_law_names_here", "_law_k", "_law_shorts", "_law_options", "_law_name", "_law_low"]) (sc := defScope s__law_grammar) (by decide +kernel)) (fun _ _ _ _ _ => (pg_name (i := 5) sc__law_grammar.nd rfl (Or.inl rfl))) (fun _ _ _ _ _ => pts_nil) (fun _ _ _ _ _ => (pe_bmK K PySem.F.plainAttrs_list PySem.F.slot_list_pop PySem.F.type_list_pop mt_popAt (pv 3) (pa_cons (pe_c (ok__law_next (P := P) (w := w) (base := base) T) hr (by decide) rfl pass0 (pa_cons (pv 0) (pa_cons (pe_callB (lenSq K) rfl T.f_len bt_len (pa_cons (pv 3) pa_nil)) pa_nil))) pa_nil))))
      (pss_cons (ps_set (i := 6) sc__law_grammar.nd rfl (Or.inr rfl) (pe_callTy (cr_listStr rfl) rfl T.f_list bt_list (pa_cons pe_str pa_nil)))
      (pss_cons (ps_setLc (i := 7) (own := [("_law_name", 8)]) (g := gName 8) (tt := tYes) rfl sc__law_grammar.nd rfl rfl (sw_true rfl rfl rfl (by decide +kernel)) (pi_list (pv 4)) (blkOk_by (N := ["_law_d", "_law_most", "_law_clauses_here", "_law_left", "_law_names_here", "_law_k", "_law_shorts", "_law_options", "_law_name", "_law_low"]) (sc := defScope s__law_grammar) (by decide +kernel)) (fun _ _ _ _ _ => (pg_name (i := 8) sc__law_grammar.nd rfl (Or.inl rfl))) (fun _ _ _ _ _ => pts_nil) (fun _ _ _ _ _ => (pe_tup (pa_cons (pv 8) (pa_cons (pe_c (ok__law_pick (P := P) (w := w) (base := base) T) hr (by decide) rfl pass0 (pa_cons (pv 0) (pa_cons (pe_lst (pa_cons pe_str (pa_cons (pe_bm0k K PySem.F.plainAttrs_list PySem.F.slot_list_pop PySem.F.type_list_pop mt_pop (pv 6)) pa_nil))) pa_nil))) (pa_cons (pe_c (ok__law_kind (P := P) (w := w) (base := base) T) hr (by decide) rfl pass0 (pa_cons (pv 0) pa_nil)) pa_nil))))))
      (pss_cons (ps_set (i := 9) sc__law_grammar.nd rfl (Or.inl rfl) (pe_c (ok__law_next (P := P) (w := w) (base := base) T) hr (by decide) rfl pass0 (pa_cons (pv 0) (pa_cons pe_int pa_nil))))
      (pss_one (ps_ret (pe_tup (pa_cons (pe_callTy (cr_tupleOf K) rfl T.f_tuple bt_tuple (pa_cons (pv 7) pa_nil)) (pa_cons (pe_tup (pa_cons (pv 9) (pa_cons (pe_op op_add (pv 9) (pe_c (ok__law_next (P := P) (w := w) (base := base) T) hr (by decide) rfl pass0 (pa_cons (pv 0) (pa_cons (pe_op op_sub pe_int (pv 9)) pa_nil)))) pa_nil))) (pa_cons (pe_c (ok__law_clauses (P := P) (w := w) (base := base) T) hr (by decide) rfl pass0 (pa_cons (pv 0) (pa_cons (pv 4) (pa_cons (pv 2) pa_nil)))) pa_nil))))))))))), ?_⟩
    refine ⟨by show 12 ≤ sizeLine; decide, fun pl hpl => ?_⟩
    have e1 := Ex.new (o := .lst (names12.map V.str)) hpl
    have nl := hd.ne hpl
    refine ⟨_, rfl, _, rfl, d, 6, S, rfl, hd.mono e1, by decide, by decide, fun m H2 hm e2 hd2 => ?_⟩
    refine ⟨_, _, rfl, rfl, ⟨(1 : Int) + (m : Int), rfl, by omega, by omega, fun pn hpn => ?_⟩⟩
    rw [show ((1 : Int) + (m : Int)).toNat = 1 + m by omega]
    have e02 : ExB d H H2 := (ExB.of e1).trans e2
    have hl2 := e2 _ _ nl upd_same
    have nn := hd2.ne hpn
    have nnl : pn ≠ pl := fun z => by rw [z, hl2] at hpn; cases hpn
    have hpn0 : H pn = none := by
      cases h : H pn with
      | none => rfl
      | some o =>
        have := e02 _ _ nn h
        rw [hpn] at this
        cases this
    refine lc_it (walk_range (lo := 0) (n := 1 + m)) (fun (i : Nat) (H' : Hp) => ExB d H H' ∧ Dice K d S H' ∧ ∃ ls ns : List Str, H' pl = some (.lst (ls.map V.str)) ∧ H' pn = some (.lst (ns.map V.str)) ∧ ns.length = i ∧ (ns ++ ls).Perm names12) ⟨e02.mut hpn0, hd2.mono (Ex.new hpn), names12, [], by rw [upd_ne (Ne.symm nnl)]; exact hl2, upd_same, rfl, List.Perm.refl _⟩ (fun _ _ _ _ => trivial) ?_ ?_
    · rintro i x H3 H3' hi ⟨e3, hd3, ls, ns, hl3, hn3, hnl, hpm⟩ ⟨rfl, rfl⟩
      refine ⟨rfl, yesT (iteT ?_)⟩
      have hlen := hpm.length_eq
      rw [List.length_append, show names12.length = 12 from rfl] at hlen
      refine ⟨_, rfl, .inl ⟨rfl, _, sq_of hl3⟩, _, rfl, _, rfl, _, _, rfl, .inl (sq_of hl3), d, (ls.map V.str).length, S, rfl, hd3, by rw [List.length_map]; omega, by rw [List.length_map]; omega, fun r H4 hr e4 hd4 => ?_⟩
      have hr2 : r < ls.length := by rw [List.length_map] at hr; exact hr
      obtain ⟨z, hz⟩ : ∃ z, ls[r]? = some z := ⟨ls[r], by simp [hr2]⟩
      refine ⟨pl, ls.map V.str, _, r, .str z, rfl, rfl, e4 _ _ nl hl3, by omega, by omega, (ixN_seq (ixN_nat hr)).1, by rw [List.getElem?_map, hz]; rfl, ?_⟩
      have hn4 := e4 _ _ nn hn3
      have e34 := e3.trans e4
      have e5 := e34.mut (o := .lst ((ls.map V.str).eraseIdx r)) hpl
      have hd5 := hd.mut (o := .lst ((ls.map V.str).eraseIdx r)) hd4 e34 hpl
      refine ⟨ns.map V.str, by rw [upd_ne nnl]; exact hn4, ?_, e5.mut hpn0, hd.mut hd5 e5 hpn0, ls.eraseIdx r, ns ++ [z], ?_, ?_, ?_, ?_⟩
      · rw [List.length_map]
        exact sz_lt (by omega)
      · rw [upd_ne (Ne.symm nnl), upd_same, map_erase]
      · rw [upd_same, List.map_append]
        rfl
      · simp [hnl]
      · rw [List.append_assoc]
        exact (List.Perm.append_left ns (erase_perm ls r z hz)).trans hpm
    · rintro H3 ⟨e3, hd3, ls, ns, hl3, hn3, hnl, hpm⟩
      refine ⟨_, rfl, by decide, fun ps hps => ?_⟩
      have hlen := hpm.length_eq
      have nodup := hpm.nodup_iff.mpr names12_nodup
      have hnd : ns.Nodup := (List.nodup_append.mp nodup).1
      have hnin : ∀ z ∈ ns, z ∈ names12 := fun z hz => hpm.mem_iff.mp (List.mem_append_left _ hz)
      have e4 := Ex.new (o := .lst (letters.map V.str)) hps
      have hd4 := hd3.mono e4
      have hn4 := e4 _ _ hn3
      have nps := hd3.ne hps
      have npsn : ps ≠ pn := fun z => by rw [z, hn3] at hps; cases hps
      have hps0 : H ps = none := by
        cases h : H ps with
        | none => rfl
        | some o =>
          have := e3 _ _ nps h
          rw [hps] at this
          cases this
      have e04 := e3.trans (ExB.of e4)
      have hs4 : upd H3 ps (.lst (letters.map V.str)) ps = some (.lst (letters.map V.str)) := upd_same
      have hu : ("abcdefghijkl" : Str).cps.toList.map (fun c => V.str ⟨#[c]⟩) = letters.map V.str := by
        unfold letters
        rw [List.map_map]
        rfl
      rw [hu]
      generalize upd H3 ps (.lst (letters.map V.str)) = H4 at e4 hd4 hn4 e04 hs4
      refine ⟨_, rfl, pn, rfl, ⟨_, sq_of hn4⟩, fun D hD => ?_⟩
      have nD := hd4.ne hD
      have nDn : D ≠ pn := fun z => by rw [z, hn4] at hD; cases hD
      have nDs : D ≠ ps := fun z => by rw [z, hs4] at hD; cases hD
      have hD0 : H D = none := by
        cases h : H D with
        | none => rfl
        | some o =>
          have := e04 _ _ nD h
          rw [hD] at this
          cases this
      refine lc_it (walk_list (K := K) (a := pn) (xs := ns.map V.str)) (fun (i : Nat) (H' : Hp) => ExB d H H' ∧ Dice K d S H' ∧ H' pn = some (.lst (ns.map V.str)) ∧ H' ps = some (.lst ((letters.take (12 - i)).map V.str)) ∧ ∃ ys os, H' D = some (.lst ys) ∧ LR (rOption K) H' ys os ∧ os.length = i ∧ os.map (·.1) = ns.take i ∧ (∀ o ∈ os, OptOk o) ∧ (shortsOf os).Nodup ∧ ∀ z ∈ shortsOf os, z ∈ letters.drop (12 - i)) ⟨e04.mut hD0, hd4.mono (Ex.new hD), by rw [upd_ne (Ne.symm nDn)]; exact hn4, by rw [upd_ne (Ne.symm nDs)]; exact hs4, [], [], upd_same, .nil, rfl, rfl, by simp, by simp [shortsOf], by simp [shortsOf]⟩ (fun i H' _ h => sq_of h.2.2.1) ?_ ?_
      · rintro i x H5 H5' hi ⟨e5, hd5, hn5, hs5, ys, os, hD5, hl5, ol, onm, oks, snd, sin⟩ ⟨rfl, hx⟩
        refine ⟨rfl, yesT (iteT ?_)⟩
        have hi6 : i < ns.length := by rw [List.length_map] at hi; exact hi
        obtain ⟨n, hn⟩ : ∃ n, ns[i]? = some n := ⟨ns[i], by simp [hi6]⟩
        obtain rfl : x = .str n := by
          rw [List.getElem?_map, hn] at hx
          cases hx
          rfl
        obtain ⟨z, hz⟩ : ∃ z, letters[12 - i - 1]? = some z := ⟨letters[12 - i - 1]'(by rw [letters_len]; omega), by simp [letters_len]⟩
        have hlt : ((letters.take (12 - i)).map V.str).length = 12 - i := by rw [List.length_map, List.length_take, letters_len]; omega
        have hlast : ((letters.take (12 - i)).map V.str)[((letters.take (12 - i)).map V.str).length - 1]? = some (.str z) := by
          rw [hlt, List.getElem?_map, List.getElem?_take_of_lt (by omega), hz]
          rfl
        refine ⟨_, rfl, _, rfl, _, rfl, .inl ⟨rfl, _, sq_of hs5⟩, ps, _, _, rfl, rfl, hs5, hlast, ?_⟩
        have hdl : ((letters.take (12 - i)).map V.str).dropLast = (letters.take (12 - (i + 1))).map V.str := by
          rw [← List.map_dropLast]
          by_cases h0 : 12 - i < letters.length
          · rw [List.dropLast_take h0, Nat.sub_sub]
          · rw [List.take_of_length_le (by omega), List.dropLast_eq_take, letters_len]
            rw [letters_len] at h0
            have : i = 0 := by omega
            subst this
            rfl
        rw [hdl]
        have e6 := e5.mut (o := .lst ((letters.take (12 - (i + 1))).map V.str)) hps0
        have hd6 := hd.mut (o := .lst ((letters.take (12 - (i + 1))).map V.str)) hd5 e5 hps0
        have hn6 : upd H5' ps (.lst ((letters.take (12 - (i + 1))).map V.str)) pn = some (.lst (ns.map V.str)) := by rw [upd_ne (Ne.symm npsn)]; exact hn5
        have hD6 : upd H5' ps (.lst ((letters.take (12 - (i + 1))).map V.str)) D = some (.lst ys) := by rw [upd_ne nDs]; exact hD5
        have hl6 := hl5.smono (H' := upd H5' ps (.lst ((letters.take (12 - (i + 1))).map V.str))) sOption (L := [ps]) (fun a m => by simp at m; subst m; exact ⟨_, hs5⟩) (ExS.upd (by simp))
        have hs6 : upd H5' ps (.lst ((letters.take (12 - (i + 1))).map V.str)) ps = some (.lst ((letters.take (12 - (i + 1))).map V.str)) := upd_same
        generalize upd H5' ps (.lst ((letters.take (12 - (i + 1))).map V.str)) = H6 at e6 hd6 hn6 hD6 hl6 hs6
        refine ⟨by show 2 ≤ sizeLine; decide, fun p2 hp2 => ?_⟩
        have e7 := Ex.new (o := .lst [V.str "", V.str z]) hp2
        refine ⟨d, p2, _, S, rfl, hd6.mono e7, SqB.ne (sq_of upd_same) (hd6.ne hp2), by show 0 < 2; decide, by show 2 ≤ 100000; decide, fun x H8 hx8 e8 hd8 => ?_⟩
        refine ⟨_, rfl, d, S, rfl, hd8, fun vk kd H9 hkd e9 hd9 rk => ?_⟩
        refine ⟨by show 3 ≤ sizeLine; decide, fun pt hpt => ?_⟩
        have e10 := Ex.new (o := .tup [V.str n, x, vk]) hpt
        have e610 : ExB d H6 (upd H9 pt (.tup [V.str n, x, vk])) := (((ExB.of e7).trans e8).trans e9).trans (ExB.of e10)
        have hd10 := hd9.mono e10
        obtain ⟨sh, rfl, hsh⟩ : ∃ sh, x = .str sh ∧ (sh = "" ∨ sh = z) := by
          simp only [List.mem_cons, List.not_mem_nil, or_false] at hx8
          rcases hx8 with rfl | rfl
          · exact ⟨_, rfl, .inl rfl⟩
          · exact ⟨_, rfl, .inr rfl⟩
        have hzl : z ∈ letters := List.mem_of_getElem? hz
        have rt : rOption K (upd H9 pt (.tup [V.str n, V.str sh, vk])) (.ref pt) (n, sh, kd) := ⟨pt, _, _, _, rfl, st_of upd_same, rfl, rfl, mKd _ _ _ _ e10 rk⟩
        have hl10 := hl6.smono sOption (LsS.one hd6) (exs1 e610)
        have hn10 := e610 _ _ nn hn6
        have hs10 := e610 _ _ nps hs6
        have hD10 := e610 _ _ nD hD6
        have e010 := e6.trans e610
        generalize upd H9 pt (.tup [V.str n, V.str sh, vk]) = H10 at e10 e610 hd10 rt hl10 hn10 hs10 hD10 e010
        have yl := hl5.length
        refine ⟨ys, hD10, sz_lt (by omega), e010.mut hD0, hd.mut hd10 e010 hD0, by rw [upd_ne (Ne.symm nDn)]; exact hn10, by rw [upd_ne (Ne.symm nDs)]; exact hs10, ys ++ [.ref pt], os ++ [(n, sh, kd)], upd_same, ?_, by simp [ol], ?_, fun o ho => ?_, ?_, fun y hy => ?_⟩
        · exact (hl10.imp fun v a h => sOption.rob H10 D ys _ v a hD10 h).snoc (sOption.rob H10 D ys _ _ _ hD10 rt)
        · rw [List.map_append, onm, List.take_succ, hn]
          rfl
        · rcases List.mem_append.mp ho with ho | ho
          · exact oks o ho
          · simp at ho
            subst ho
            refine ⟨names12_ok _ (hnin _ (List.mem_of_getElem? hn)), ?_, hkd⟩
            rcases hsh with rfl | rfl
            · exact short_nil
            · exact (letters_ok _ hzl).1
        · rw [shortsOf_snoc]
          by_cases hse : sh = ""
          · rw [if_pos hse, List.append_nil]
            exact snd
          · rw [if_neg hse]
            have hsz : sh = z := by
              rcases hsh with h | h
              · exact absurd h hse
              · exact h
            rw [hsz]
            refine List.nodup_append.mpr ⟨snd, by simp, fun a ha b hb => ?_⟩
            simp at hb
            subst hb
            intro hab
            subst hab
            exact new_letter (by omega) hz (sin _ ha)
        · rw [shortsOf_snoc] at hy
          rcases List.mem_append.mp hy with hy | hy
          · exact drop_more (sin _ hy)
          · by_cases hse : sh = ""
            · rw [if_pos hse] at hy
              cases hy
            · rw [if_neg hse] at hy
              have hsz : sh = z := by
                rcases hsh with h | h
                · exact absurd h hse
                · exact h
              rw [hsz] at hy
              simp at hy
              subst hy
              exact at_drop hz
      · rintro H5 ⟨e5, hd5, hn5, hs5, ys, os, hD5, hl5, ol, onm, oks, snd, sin⟩
        rw [List.length_map] at ol onm
        rw [List.take_of_length_le (Nat.le_refl _)] at onm
        refine ⟨_, rfl, d, 10, S, rfl, hd5, by decide, by decide, fun lo H6 hlo e6 hd6 => ?_⟩
        have hD6 := e6 _ _ nD hD5
        have hn6 := e6 _ _ nn hn5
        have hl6 := hl5.smono sOption (LsS.one hd5) (exs1 e6)
        refine ⟨_, rfl, _, _, rfl, .inl ⟨sq_of hD6, fun po hpo => ?_⟩⟩
        have e7 := Ex.new (o := .tup ys) hpo
        refine ⟨_, rfl, _, rfl, _, rfl, _, rfl, _, _, rfl, rfl, d, 10 - lo, S, ?_, hd6.mono e7, by omega, by omega, fun hi H8 hhi e8 hd8 => ?_⟩
        · show [V.ref d, V.int (10 - (lo : Int))] = [V.ref d, V.int ((10 - lo : Nat) : Int)]
          have : (10 : Int) - (lo : Int) = ((10 - lo : Nat) : Int) := by omega
          rw [this]
        refine ⟨_, _, rfl, rfl, by show 2 ≤ sizeLine; decide, fun p2 hp2 => ?_⟩
        have e9 := Ex.new (o := .tup [V.int (lo : Int), V.int ((lo : Int) + (hi : Int))]) hp2
        have hn9 := e9 _ _ (e8 _ _ nn (e7 _ _ hn6))
        refine ⟨_, rfl, _, rfl, _, rfl, d, pn, ns, S, rfl, hd8.mono e9, SqB.ne (sq_of hn9) nn, by omega, by omega, fun vc cs H10 c6 hcs e10 hd10 rc => ?_⟩
        refine ⟨by show 3 ≤ sizeLine; decide, fun pg hpg => ?_⟩
        have e11 := Ex.new (o := .tup [V.ref po, V.ref p2, vc]) hpg
        have npo := hd6.ne hpo
        have np2 := hd8.ne hp2
        have e811 := ((ExB.of e9).trans e10).trans (ExB.of e11)
        have e711 := e8.trans e811
        have po11 := e711 _ _ npo upd_same
        have p211 := ((e10.trans (ExB.of e11))) _ _ np2 upd_same
        have eall := ((e5.trans e6).trans (ExB.of e7)).trans e711
        have lo11 := (hl6.mono mOption e7).smono sOption (LsS.one (hd6.mono e7)) (exs1 e711)
        refine k (.ref pg) (os, ((lo : Int), (lo : Int) + (hi : Int)), cs) _ ⟨?_, ?_, oks, ?_, snd, ?_, ?_, ?_, ?_, c6⟩ eall (hd10.mono e11) ⟨pg, _, _, _, rfl, st_of upd_same, ⟨po, ys, rfl, st_of po11, lo11⟩, ⟨p2, _, _, rfl, st_of p211, rfl, rfl⟩, mTpl mCl _ _ _ _ e11 rc⟩
        · show 1 ≤ os.length; omega
        · show os.length ≤ 6; omega
        · show (os.map (·.1)).Nodup; rw [onm]; exact hnd
        · show (0 : Int) ≤ (lo : Int); omega
        · show (lo : Int) ≤ (lo : Int) + (hi : Int); omega
        · show (lo : Int) + (hi : Int) ≤ 9; omega
        · show ∀ c ∈ cs, ClOk (os.map (·.1)) c; rw [onm]; exact hcs
end
end K19

/-! ## K19Ld -/
set_option Elab.async false
set_option linter.all false
set_option maxRecDepth 100000
set_option maxHeartbeats 4000000
/-! isinstance of a caught error of an own class that has a dict: the steps of HandS.ExcIs, turned to a dict -/
namespace PySem.W
open PySem PySem.Spec PySem.Calls PyProof.Rows
section
variable {prog : Program} {w : World} {A : Around} {E : Value → Shared → Prop} {s : Shared} {K : Frag} {x D : Addr} {ox od : Obj}
theorem k19_classE {Q : Option Value → Shared → Prop} (hga : findIn K (.ref D) "__getattribute__" = some (some (.builtin "BaseException.__getattribute__"))) (hgt : findIn K (.ref D) "__getattr__" = some none) (hsub : subIn K (.ref D) (.type "BaseException") = some true)
    (hdct : hasDictIn K D = true) (ha : findIn K (.ref D) "__class__" = some (some (.builtin "object.__class__")))
    (hn : specialIn K (.builtin "object.__class__") "__get__" = some (some (.builtin "getset_descriptor.__get__"))) (htk : takesIn K (.builtin "object.__class__") = some true) (hm : mroIn K D (.type "object") = some true)
    (X : K.In s.heap) (I : InstAt s.heap x ox D (some od)) (h : Q (some (.ref D)) { s with toks := s.toks + 1 }) : wpAny (model prog w) A (getAttr? (.ref x) "__class__") Q E s := by
  have hf : findObj K D (some od) "__class__" = some (.bind (.builtin "getset_descriptor.__get__") (.builtin "object.__class__")) := findObj_data (by obtain ⟨cd, hc, _⟩ := any_some hdct; rw [hc]; rfl) ha hn htk
  obtain ⟨hp, g, d, t, os⟩ := s
  have L0 := I.type (M := model prog w)
  have L1 := looks_findIn (M := model prog w) X hga
  have L2 := looks_findIn (M := model prog w) X hgt
  have L3 := looks_find (M := model prog w) X I hf
  have sub : Looks (model prog w) hp (isInstance (.ref x) (.type "BaseException")) true := L0.andThen (looks_subIn X hsub)
  have hx0 : (false && onTheHeap (Value.builtin "BaseException.__getattribute__")) = false := rfl
  have hx2 : (Value.builtin "BaseException.__getattribute__" == Value.builtin "object.__getattribute__") = false := by decide +kernel
  have hx1 : (onTheHeap (Value.ref D) && Value.builtin "BaseException.__getattribute__" == Value.builtin "object.__getattribute__") = false := by rw [hx2]; rfl
  unfold getAttr? getAttrBy? getAttrBy
  refine wpAny_bind (wpAny_mkText (wpAny_bind (wpAny_attempt (wpAny_holding (wpAny_bind (L0.at (wpAny_bind (L1.at ?_))))))))
  show wpAny _ _ (if (onTheHeap (Value.ref D) && Value.builtin "BaseException.__getattribute__" == Value.builtin "object.__getattribute__") = true then _ else _) _ _ _
  rw [hx1, if_neg Bool.false_ne_true]
  unfold getAttrByItsOwn hookBefore
  refine wpAny_bind ?_
  rw [if_pos (show onTheHeap (Value.ref D) = true from rfl)]
  refine L2.at ?_
  refine wpAny_bind (wpAny_attempt (wpAny_holding ?_))
  unfold callGetattribute
  rw [hx0, if_neg Bool.false_ne_true]
  unfold boundAndCalled
  rw [PySem.F.excAttr_ValueError.ga.bind (.ref x)]
  refine wpAny_bind (wpAny_pure ?_)
  show wpAny _ _ (call (.builtin "BaseException.__getattribute__") [.ref x, .str "__class__" t]) _ _ _
  refine wpAny_call (codeAny_call_builtin PySem.F.excAttr_ValueError.ga.plain PySem.F.entry_bexc_ga ?_)
  refine @check_slot (model prog w) _ _ ⟨hp, g, d, t + 1, os⟩ "BaseException.__getattribute__" "BaseException" "__getattribute__" (.ref x) [.str "__class__" t] [] _ (by decide +kernel) (by decide +kernel) sub (PySem.F.args_bexc_ga (.ref x) (.str "__class__" t)) ?_
  unfold Builtin.«object.__getattribute__»
  refine wpAny_bind (wpAny_of_eq (a := ((Value.ref x : Value), [Value.str "__class__" t])) (by first | rfl | (simp only [slotArgs]; rfl)) ?_)
  refine wpAny_bind (wpAny_pure (wpAny_bind (L0.at (wpAny_bind (L3.at ?_)))))
  show wpAny _ _ (holding [Value.builtin "object.__class__"] (call (.builtin "getset_descriptor.__get__") [.builtin "object.__class__", .ref x, .ref D]) >>= ret) _ _ _
  refine wpAny_bind (wpAny_holding (wpAny_call (class_get (s := ⟨hp, g, d, t + 1, os⟩) (ox := ox) (od := some od) X I hm ?_)))
  refine wpAny_pure ?_
  show wpAny _ _ (handedOut (.ref D)) _ _ _
  rw [handedOut_of (v := .ref D) rfl]
  first
    | exact wpAny_pure (wpAny_pure h)
    | exact wpAny_pure h
    | exact wpAny_pure (wpAny_bind (wpAny_pure (wpAny_pure h)))
theorem k19_kitx_exc (hga : findIn K (.ref D) "__getattribute__" = some (some (.builtin "BaseException.__getattribute__"))) (hgt : findIn K (.ref D) "__getattr__" = some none) (hsub : subIn K (.ref D) (.type "BaseException") = some true) (hdct : hasDictIn K D = true) (ha : findIn K (.ref D) "__class__" = some (some (.builtin "object.__class__")))
    (hn : specialIn K (.builtin "object.__class__") "__get__" = some (some (.builtin "getset_descriptor.__get__"))) (htk : takesIn K (.builtin "object.__class__") = some true) (hm : mroIn K D (.type "object") = some true) :
    KitX K (.ref x) (.ref D) (fun h => InstAt h x ox D (some od)) where
  ty := fun _ _ _ I => I.type
  it := fun _ _ X _ => by
    obtain ⟨cdD, hcD, _⟩ := any_some hdct
    unfold clsIn at hcD
    split at hcD
    · rename_i c' d' cd' sl' ho
      intro A' Q' E' s' k q
      unfold isType loadHead
      exact wpAny_bind (wpAny_loadPart (k _ _ (X _ _ ho)) (wpAny_pure q))
    · cases hcD
  ne := fun h tp dd its n sl X htp => by
    obtain ⟨cdD, hcD, _⟩ := any_some hdct
    refine Bool.eq_false_iff.mpr fun q => ?_
    have e : D = tp := Value.ref.inj (beq_iff_eq.mp q)
    subst e
    unfold clsIn at hcD
    split at hcD
    · rename_i c' d' cd' sl' ho
      have z := (X _ _ ho).symm.trans htp
      cases z
    · cases hcD
  ca := fun X I k => k19_classE hga hgt hsub hdct ha hn htk hm X I k
end
end PySem.W
namespace K19
open PySem PySem.Spec PyProof.Rows L2 Evl
/-- isinstance(e, c), e the exception that the suite holds, dd its dict -/
def rIsX (K : PySem.W.Frag) (D a dd : Addr) : List V → Hp → VK → Prop := fun xs H Q => ∃ (c : V) (cv : Value) (b : Bool) (fs : List (Str × V)), xs = [.ref a, c] ∧ (∀ u, RelV c u → u = cv) ∧ PySem.W.kitOne K (.ref D) cv = some b ∧ H dd = some (.xd fs) ∧ Q (.bl b) H
theorem call_isX {X : Cx} {a D dd : Addr} {oe : Obj} {pn : List (Addr × Obj)} (C : ExcC X.K D) (hz : Zc (.ref D) (some dd) oe) (hf : ∃ vs, oe.data = .fields vs) : CallR (X.suite a ((a, oe) :: pn)) (.builtin "isinstance") (rIsX X.K D a dd) := by
  intro pins s σ H xs us Q I r h
  obtain ⟨c, cv, b, fs, rfl, hcv, e, ea, q⟩ := h
  cases r with
  | cons rx rr =>
    cases rr with
    | cons rt rr =>
      cases rr
      cases rx
      have ec := hcv _ rt
      subst ec
      obtain ⟨hget, _⟩ := I.pin (a, oe) (List.mem_append.mpr (.inl List.mem_cons_self))
      obtain ⟨vs, hv⟩ := hf
      have hx : ObjOk X.prog X.w H s.heap dd (.xd fs) := I.hok dd _ ea
      obtain ⟨mA, hns, hr⟩ := hx
      obtain ⟨od, ho, hl⟩ := lookIn_ns hns
      have J : PySem.W.InstAt s.heap a oe D (some od) := ⟨hget, hz.1, by unfold PySem.W.notCls; rw [hv] <;> rfl, by rw [hz.2]; exact ho⟩
      exact PySem.W.kia_one (PySem.W.k19_kitx_exc C.hg C.hk C.hs C.hd C.ha C.hn C.ht C.hm) I.kIn J e (fun z => nomatch z) fun tk => ⟨.bl b, H, I.kept (t' := tk) fun _ _ z => z, rfl, q⟩
/-- l.count(y), flat items -/
def rCount (K : PySem.W.Frag) : V → List V → Hp → VK → Prop := fun x xs H Q => ∃ (a : Addr) (ys : List V) (y : V), x = V.ref a ∧ xs = [y] ∧ SqL K H a ys ∧ flatV y = true ∧ ys.all flatV = true ∧ Q (.int ((ys.countP fun z => eqV z y : Nat) : Int)) H
theorem countP_eqU {y : V} : ∀ {ys : List V} {its : List Value}, Vals ys its → ys.all flatV = true → its.countP (eqU y) = ys.countP fun z => eqV z y
  | _, _, .nil, _ => rfl
  | _, _, .cons r t, f => by
    rw [List.all_cons, Bool.and_eq_true] at f
    rw [List.countP_cons, List.countP_cons, countP_eqU t f.2, eqU_of r f.1]
theorem mt_count {X : Cx} : MtR X "list.count" (rCount X.K) := by
  intro pins s σ H x xs v us Q I rx rxs h
  obtain ⟨a, ys, y, rfl, rfl, hs, fy, fys, q⟩ := h
  cases rx
  cases rxs with
  | cons ry rt =>
    rename_i uy ut
    cases rt
    obtain ⟨its, rv, ⟨⟨cls, dd, data, sl⟩, n, ho, hc, hdn, hd⟩, hlen⟩ := I.list hs
    simp only at hc hd
    subst hc hd
    refine call_meets PySem.F.slot_list_count ⟨_, ho, rfl⟩ PySem.F.entry_list_count (PySem.F.args_list_count_2 _ _) (SeqAt.list_countAt a its.toArray n dd sl uy (eqU y)) ⟨ho, fun u' hu' => mem_eqAt ry fy rv fys u' (by simpa using hu'), ?_⟩
    refine ⟨.int _, H, I.tok _, ⟨s.toks, ?_⟩, q⟩
    rw [show its.toArray.toList = its from rfl, countP_eqU rv fys]
end K19

/-! ## K19Le -/
set_option Elab.async false
set_option linter.all false
set_option maxRecDepth 100000
set_option maxHeartbeats 4000000
/-! lambdas as values: made, with a default or without (the steps of HandS.Nested, turned to a lambda) -/
namespace K19
open PySem PySem.Spec PyProof.Rows L2 LamX NdefX
/-- a lambda: its words, the cells that it captured, its code object, its defaults -/
structure LF where
  qual : Str
  params : Arguments
  body : Expr
  scope : Scope
  cl : List (Str × Addr)
  c : Addr
  dV : Value
abbrev LF.fd (F : LF) (doc pm ctv : Value) : FuncData := PySem.W.kdv_fn "<lambda>" F.qual F.params (.expr F.body) F.scope F.cl F.dV doc pm (.ref F.c) ctv
/-- the object at f is the lambda F -/
def LamO (f : Addr) (F : LF) : HO := .ext fun h => ∃ (od : Option Addr) (sl : Array (Option Value)) (doc pm ctv : Value), h.get? f = some (⟨.type "function", od, .func (F.fd doc pm ctv), sl⟩ : Obj)
theorem lamO_at {P : Program} {w : World} {H : Hp} {h : Heap} {f : Addr} {F : LF} (hok : HOk P w H h) (e : H f = some (LamO f F)) : ∃ (od : Option Addr) (sl : Array (Option Value)) (doc pm ctv : Value), h.get? f = some (⟨.type "function", od, .func (F.fd doc pm ctv), sl⟩ : Obj) := by
  obtain ⟨z, _⟩ := hok f _ e
  exact z
section
variable {X : Cx} {pins : List (Addr × Obj)} {σ : L2.St} {H : Hp} {s : Shared}
theorem inv_lam {F : LF} {o : Obj} {t' : Nat} {doc pm ctv : Value} (I : Inv X pins σ H s) (ho : o = { cls := .type "function", data := .func (F.fd doc pm ctv) }) :
    Inv X pins σ (upd H s.heap.objs.size (LamO s.heap.objs.size F)) { s with heap := s.heap.push o, toks := t' } := by
  subst ho
  refine I.laid (a := s.heap.objs.size) (fun b u e => Heap.get?_push_of_some _ e) (Nat.le_refl _) ?_
  have e : (s.heap.push ({ cls := .type "function", data := .func (F.fd doc pm ctv) } : Obj)).get? s.heap.objs.size = some ({ cls := .type "function", data := .func (F.fd doc pm ctv) } : Obj) := Heap.get?_push_size _ rfl
  exact ⟨⟨_, _, doc, pm, ctv, e⟩, ⟨_, e⟩, fun h1 h2 ⟨od, sl, d, p, t, z⟩ st => ⟨od, sl, d, p, t, st _ z⟩⟩
/-- the lambda's object is made: its code object is new, or found in the table -/
theorem lam_tail {T : List NTab} {nm : Nat → Nat → Str} {c P : Addr} {params : Arguments} {body : Expr} {scope : Scope} {pos : Pos} {dV : Value} {E : Value → Shared → Prop} {Q : Value → Shared → Prop} (I : Inv X pins σ H s) (TB : TabB X.base X.mg c P) (hcode : X.env.code = .ref c)
    (hm : (P, nm) ∈ T) (hn : nm pos.line pos.col = X.env.qual ++ "<lambda>") (hu : ∀ p ∈ T, p.1 = P → p.2 = nm) (hT : TabsN T H) (hfree : ∀ y ∈ scope.names, y.2 = .free → ∃ c, X.env.cells.lookup y.1 = some c)
    (h : ∀ (f c' : Addr) (H1 : Hp) (s' : Shared), Inv X pins σ H1 s' → ExtN H H1 → (∀ b, H1 b = Option.none → H b = Option.none) → TabsN T H1 → H f = none → H1 f = some (LamO f ⟨X.env.qual ++ "<lambda>", params, body, scope, cloFrom X.env.cells scope.names [], c', dV⟩) → H1 c' = some (CodeO c' (X.env.qual ++ "<lambda>")) → Q (.ref f) s') :
    wpAny (model X.prog X.w) X.A (makeTail "<lambda>" (X.env.qual ++ "<lambda>") params (.expr body) scope X.env dV .none none pos pos.line) Q E s := by
  obtain ⟨ps, hP, ht, ha⟩ := (show TabN H P nm from hT _ hm)
  have bP : s.heap.BuiltinsAt X.mg P := TB.bm.keeps I.bk
  have hP' : s.heap.get? P = some { cls := .none, data := .fields ps } := I.hok P _ hP
  cases hc : codeAmong pos ps.toList with
  | none =>
    refine PySem.W.kdv_makeTail (mg := X.mg) (c := c) (P := P) (ps := ps) (closure_ok hfree) I.ok.glob (I.mod.glob.keeps I.bk) hcode (TB.code.keeps I.bk) hP' ht hc TB.gP bP fun c' ctv doc h' tk hx hge hlt hrec htb => ?_
    obtain ⟨c2, oc, vs, t, e2, hoc, hd, hv⟩ := hrec
    cases e2
    have nC : H c' = none := I.hok.fresh hge
    have I1 := inv_table (t' := tk) (more := #[rawInt pos.line, rawInt pos.col, .ref c']) (h' := h') I hP (fun b o hb e => hx b o hb e) htb hge ⟨oc, vs, t, hoc, hd, hv⟩
    have hE : ExtN H (upd (upd H P (.tbl (ps ++ #[rawInt pos.line, rawInt pos.col, .ref c']))) c' (CodeO c' (X.env.qual ++ "<lambda>"))) := fun b o e n => by
      rw [upd_ne (ne_of_none e nC), upd_ne (fun z => n ps (Option.some.inj (e.symm.trans (by rw [z]; exact hP))))]
      exact e
    have eL : (ps ++ #[rawInt pos.line, rawInt pos.col, .ref c']).toList = ps.toList ++ [rawInt pos.line, rawInt pos.col, .ref c'] := by simp
    have T1 : TabsN T (upd (upd H P (.tbl (ps ++ #[rawInt pos.line, rawInt pos.col, .ref c']))) c' (CodeO c' (X.env.qual ++ "<lambda>"))) := fun p hp => by
      by_cases hb : p.1 = P
      · rw [hu p hp hb, hb]
        refine ⟨_, by rw [upd_ne (ne_of_none hP nC), upd_same], by rw [eL]; exact PySem.TriplesOk_snoc _ _ _ _ ht, fun p' cv hcv => ?_⟩
        rw [eL] at hcv
        rcases among_app2 _ ht hcv with z | ⟨z, z1, z2⟩
        · obtain ⟨c0, e1, e2⟩ := ha p' cv z
          exact ⟨c0, e1, hE _ _ e2 codeO_ne⟩
        · refine ⟨c', z, ?_⟩
          rw [← z1, ← z2, hn]
          exact upd_same
      · obtain ⟨ps', a1, a2, a3⟩ := hT p hp
        refine ⟨ps', by rw [upd_ne (ne_of_none a1 nC), upd_ne hb]; exact a1, a2, fun p' cv hcv => ?_⟩
        obtain ⟨c0, e1, e2⟩ := a3 p' cv hcv
        exact ⟨c0, e1, hE _ _ e2 codeO_ne⟩
    have nF := I1.hok.fresh (Nat.le_refl _)
    have I2 := inv_lam (F := ⟨X.env.qual ++ "<lambda>", params, body, scope, cloFrom X.env.cells scope.names [], c', dV⟩) (t' := tk) (doc := doc) (pm := (X.mg "__name__").getD .none) (ctv := ctv) I1 rfl
    refine h h'.objs.size c' _ _ I2 (fun b o e n => ?_) (fun b e => upd_none (upd_none (upd_none e))) (T1.ext fun b o e => ?_) (I.hok.fresh (Nat.le_trans hge (Nat.le_of_lt hlt))) upd_same ?_
    · have e1 := hE b o e n
      exact (upd_ne (ne_of_none e1 nF)).trans e1
    · exact (upd_ne (ne_of_none e nF)).trans e
    · exact (upd_ne (Nat.ne_of_lt hlt)).trans upd_same
  | some cv =>
    obtain ⟨c', e, hco⟩ := ha pos cv hc
    subst e
    rw [hn] at hco
    refine PySem.W.kdv_makeTailHit (mg := X.mg) (c := c) (P := P) (ps := ps) (closure_ok hfree) I.ok.glob (I.mod.glob.keeps I.bk) hcode (TB.code.keeps I.bk) hP' ht hc bP fun ctv doc h' tk hx hsz => ?_
    have I1 : Inv X pins σ H { s with heap := h', toks := tk } := I.kept hx
    have nF : H h'.objs.size = none := I1.hok.fresh (Nat.le_refl _)
    have I2 := inv_lam (F := ⟨X.env.qual ++ "<lambda>", params, body, scope, cloFrom X.env.cells scope.names [], c', dV⟩) (t' := tk) (doc := doc) (pm := (X.mg "__name__").getD .none) (ctv := ctv) I1 rfl
    refine h h'.objs.size c' _ _ I2 (fun b o e n => ?_) (fun b e => upd_none e) (hT.ext fun b o e => ?_) nF upd_same ?_
    · exact (upd_ne (ne_of_none e nF)).trans e
    · exact (upd_ne (ne_of_none e nF)).trans e
    · exact (upd_ne (ne_of_none hco nF)).trans hco
/-- the making, read: the lambda without defaults -/
def tLam0 (T : List NTab) (q : Str) (mk : Addr → Value → LF) : TE := fun σ H Q => TabsN T H ∧ ∀ (f c' : Addr) (H1 : Hp), ExtN H H1 → (∀ b, H1 b = Option.none → H b = Option.none) → TabsN T H1 → H f = none → H1 f = some (LamO f (mk c' .none)) → H1 c' = some (CodeO c' q) → Q (.ref f) H1
/-- the lambda with one default -/
def tLam1 (T : List NTab) (q : Str) (mk : Addr → Value → LF) (i : Int) : TE := fun σ H Q => TabsN T H ∧ ∀ (f c' t : Addr) (H1 : Hp), ExtN H H1 → (∀ b, H1 b = Option.none → H b = Option.none) → TabsN T H1 → H f = none → H t = none → H1 t = some (.tup [.int i]) → H1 f = some (LamO f (mk c' (.ref t))) → H1 c' = some (CodeO c' q) → Q (.ref f) H1
theorem pe_lam0 {T : List NTab} {nm : Nat → Nat → Str} {c P : Addr} {params : Arguments} {body : Expr} {scope : Scope} {pos : Pos} (TB : TabB X.base X.mg c P) (hcode : X.env.code = .ref c)
    (hm : (P, nm) ∈ T) (hn : nm pos.line pos.col = X.env.qual ++ "<lambda>") (hu : ∀ p ∈ T, p.1 = P → p.2 = nm) (hfree : ∀ y ∈ scope.names, y.2 = .free → X.env.scope.names.lookup y.1 = some .cell ∨ X.env.scope.names.lookup y.1 = some .free) (hdef : defaultsOf params X.env = ([], [])) :
    PE X (.Lambda params body scope pos) (tLam0 T (X.env.qual ++ "<lambda>") fun c' dV => ⟨X.env.qual ++ "<lambda>", params, body, scope, cloFrom X.env.cells scope.names [], c', dV⟩) := by
  refine ⟨fun pins s σ H Q I h => ?_⟩
  obtain ⟨hT, h⟩ := h
  refine PySem.W.kla_eval hdef ?_
  rw [makeFunction_eq]
  simp only [List.zip_nil_right, List.filterMap_nil, List.isEmpty_nil, if_true, pure_bind]
  exact lam_tail I TB hcode hm hn hu hT (fun y hy e => I.ok.has _ (hfree y hy e)) fun f c' H1 s' I1 e1 e2 T1 hf hF hC => ⟨.ref f, H1, I1, rfl, h f c' H1 e1 e2 T1 hf hF hC⟩
theorem pe_lam1 {T : List NTab} {nm : Nat → Nat → Str} {c P : Addr} {params : Arguments} {body d : Expr} {scope : Scope} {pos : Pos} {i : Int} (TB : TabB X.base X.mg c P) (hcode : X.env.code = .ref c)
    (hm : (P, nm) ∈ T) (hn : nm pos.line pos.col = X.env.qual ++ "<lambda>") (hu : ∀ p ∈ T, p.1 = P → p.2 = nm) (hfree : ∀ y ∈ scope.names, y.2 = .free → X.env.scope.names.lookup y.1 = some .cell ∨ X.env.scope.names.lookup y.1 = some .free)
    (hd : params.defaults = [d]) (hk : params.kw_defaults = []) (hde : PE X d (tC (.int i))) :
    PE X (.Lambda params body scope pos) (tLam1 T (X.env.qual ++ "<lambda>") (fun c' dV => ⟨X.env.qual ++ "<lambda>", params, body, scope, cloFrom X.env.cells scope.names [], c', dV⟩) i) := by
  refine ⟨fun pins s σ H Q I h => ?_⟩
  obtain ⟨hT, h⟩ := h
  refine PySem.W.kdv_lam (by rw [hd]; rfl) hk ?_
  rw [hd]
  refine PySem.W.kdv_all1 (thn (hde.run pins s σ H (fun v H1 => v = .int i ∧ H1 = H) I ⟨rfl, rfl⟩) fun u s1 ⟨v, H1, I1, r1, e1, e2⟩ => PySem.W.kdv_all0 ?_)
  subst e1
  subst e2
  rw [makeFunction_eq]
  simp only [List.zip_nil_right, List.filterMap_nil, List.isEmpty_nil, if_true, pure_bind, List.isEmpty_cons, Bool.false_eq_true, if_false]
  refine wpAny_bind (wpAny_newTextTuple ?_)
  have nt : H1 s1.heap.objs.size = none := I1.hok.fresh (Nat.le_refl _)
  have I2 : Inv X pins σ (upd H1 s1.heap.objs.size (.tup [.int i])) { s1 with heap := s1.heap.push { cls := .type "tuple", data := .seq [u].toArray } } := I1.laid (t' := s1.toks) (fun b u e => Heap.get?_push_of_some _ e) (Nat.le_refl _)
    ⟨(show 1 ≤ sizeLine by decide), [u], .cons r1 .nil, ⟨_, Heap.get?_push_size _ rfl, rfl, _, rfl⟩⟩
  have e2 : ∀ b o, H1 b = some o → upd H1 s1.heap.objs.size (.tup [.int i]) b = some o := fun b o e => (upd_ne (ne_of_none e nt)).trans e
  refine lam_tail I2 TB hcode hm hn hu (hT.ext e2) (fun y hy e => I2.ok.has _ (hfree y hy e)) fun f c' H3 s' I3 e3 e4 T3 hf hF hC => ⟨.ref f, H3, I3, rfl, ?_⟩
  have ht3 := e3 _ _ upd_same (fun ps z => by cases z)
  exact h f c' s1.heap.objs.size H3 (fun b o e n => e3 _ _ (e2 _ _ e) n) (fun b e => upd_none (e4 b e)) T3 (upd_none hf) nt ht3 hF hC
end
end K19

/-! ## K19Lf -/
set_option Elab.async false
set_option linter.all false
set_option maxRecDepth 100000
set_option maxHeartbeats 4000000
/-! cells that stand in the tracked heap (locked or not): put in at a return, taken out for a call, put back at its end -/
namespace K19
open PySem PySem.Spec PyProof.Rows L2 LamX NdefX
def CellO (c : Addr) (v : V) : HO := .ext fun h => ∃ u, L2.RelV v u ∧ h.IsCell c (some u)
theorem cellO_ext (c : Addr) (v : V) : ∃ φ, CellO c v = .ext φ := ⟨_, rfl⟩
/-- new cells put in -/
def putC (H : Hp) (cs : List (Addr × V)) : Hp := fun a => match cs.lookup a with
  | some v => some (CellO a v)
  | none => H a
/-- cells taken out -/
def takC (H : Hp) (cs : List (Addr × V)) : Hp := fun a => match cs.lookup a with
  | some _ => none
  | none => H a
/-- put back as they stood in H -/
def putB (H H' : Hp) (cs : List (Addr × V)) : Hp := fun a => match cs.lookup a with
  | some _ => H a
  | none => H' a
theorem putC_in {H : Hp} {cs : List (Addr × V)} {a : Addr} {v : V} (h : cs.lookup a = some v) : putC H cs a = some (CellO a v) := by unfold putC; rw [h]
theorem putC_out {H : Hp} {cs : List (Addr × V)} {a : Addr} (h : cs.lookup a = none) : putC H cs a = H a := by unfold putC; rw [h]
theorem takC_in {H : Hp} {cs : List (Addr × V)} {a : Addr} {v : V} (h : cs.lookup a = some v) : takC H cs a = none := by unfold takC; rw [h]
theorem takC_out {H : Hp} {cs : List (Addr × V)} {a : Addr} (h : cs.lookup a = none) : takC H cs a = H a := by unfold takC; rw [h]
theorem putB_in {H H' : Hp} {cs : List (Addr × V)} {a : Addr} {v : V} (h : cs.lookup a = some v) : putB H H' cs a = H a := by unfold putB; rw [h]
theorem putB_out {H H' : Hp} {cs : List (Addr × V)} {a : Addr} (h : cs.lookup a = none) : putB H H' cs a = H' a := by unfold putB; rw [h]
/-- H' does not track the cells -/
abbrev NoC (H' : Hp) (cs : List (Addr × V)) : Prop := ∀ a v, cs.lookup a = some v → H' a = none
/-- H does, locked or not -/
abbrev HasC (H : Hp) (cs : List (Addr × V)) : Prop := ∀ a v, cs.lookup a = some v → Rd H a (CellO a v)
theorem putC_old {H : Hp} {cs : List (Addr × V)} (n : NoC H cs) {a : Addr} {o : HO} (h : H a = some o) : putC H cs a = some o := by
  cases e : cs.lookup a with
  | none => rw [putC_out e]; exact h
  | some v => rw [n a v e] at h; cases h
theorem putB_old {H H' : Hp} {cs : List (Addr × V)} (n : NoC H' cs) {a : Addr} {o : HO} (h : H' a = some o) : putB H H' cs a = some o := by
  cases e : cs.lookup a with
  | none => rw [putB_out e]; exact h
  | some v => rw [n a v e] at h; cases h
theorem HasC.nil {H : Hp} {cs : List (Addr × V)} (c : HasC H cs) {a : Addr} (h : H a = none) : cs.lookup a = none := by
  cases e : cs.lookup a with
  | none => rfl
  | some v => rcases c a v e with z | ⟨_, z⟩ <;> rw [h] at z <;> cases z
theorem HasC.out {H : Hp} {cs : List (Addr × V)} (c : HasC H cs) {a : Addr} {o : HO} (h : H a = some o) (n : ∀ φ, o ≠ .ext φ) (n2 : ∀ ob φ, o ≠ .frz ob (.ext φ)) : cs.lookup a = none := by
  cases e : cs.lookup a with
  | none => rfl
  | some v =>
    rcases c a v e with z | ⟨ob, z⟩
    · rw [h] at z
      exact absurd (Option.some.inj z) (n _)
    · rw [h] at z
      exact absurd (Option.some.inj z) (n2 _ _)
variable {P : Program} {w : World} {H H' : Hp} {h h' : Heap} {cs : List (Addr × V)}
theorem cell_ok {a : Addr} {v : V} (c : ∃ u, L2.RelV v u ∧ h.IsCell a (some u)) : ObjOk P w H h a (CellO a v) := by
  obtain ⟨u, ru, ob, ho, hd⟩ := c
  exact ⟨⟨u, ru, ob, ho, hd⟩, ⟨ob, ho⟩, fun h1 h2 ⟨u, ru, ob, ho, hd⟩ st => ⟨u, ru, ob, st _ ho, hd⟩⟩
theorem hok_add (x : HOk P w H h) (n : NoC H cs) (c : ∀ a v, cs.lookup a = some v → ∃ u, L2.RelV v u ∧ h.IsCell a (some u)) : HOk P w (putC H cs) h := fun a o e => by
  cases e1 : cs.lookup a with
  | none =>
    rw [putC_out e1] at e
    exact (x a o e).stay (fun _ _ _ q => q) (fun b q => putC_old n q) fun b xs q => putC_old n q
  | some v =>
    rw [putC_in e1] at e
    cases e
    exact cell_ok (c a v e1)
theorem hok_del (x : HOk P w H h) (c : HasC H cs) : HOk P w (takC H cs) h := fun a o e => by
  have old : ∀ b o, (∀ φ, o ≠ .ext φ) → (∀ ob φ, o ≠ .frz ob (.ext φ)) → H b = some o → takC H cs b = some o := fun b o n n2 q => by rw [takC_out (c.out q n n2)]; exact q
  cases e1 : cs.lookup a with
  | none =>
    rw [takC_out e1] at e
    exact (x a o e).stay (fun _ _ _ q => q) (fun b q => old b _ (fun φ z => by cases z) (fun ob φ z => by cases z) q) fun b xs q => old b _ (fun φ z => by cases z) (fun ob φ z => by cases z) q
  | some v =>
    rw [takC_in e1] at e
    cases e
/-- what the cells hold -/
theorem cell_at (x : HOk P w H h) {a : Addr} {v : V} (e : Rd H a (CellO a v)) : ∃ u, L2.RelV v u ∧ h.IsCell a (some u) := by
  obtain ⟨z, _⟩ := e.ok x
  exact z
theorem hok_put (x : HOk P w H h) (y : HOk P w H' h') (c : HasC H cs) (n : NoC H' cs) (k : ∀ a v o, cs.lookup a = some v → h.get? a = some o → h'.get? a = some o) : HOk P w (putB H H' cs) h' := fun a o e => by
  cases e1 : cs.lookup a with
  | none =>
    rw [putB_out e1] at e
    exact (y a o e).stay (fun _ _ _ q => q) (fun b q => putB_old n q) fun b xs q => putB_old n q
  | some v =>
    rw [putB_in e1] at e
    have ok : ObjOk P w (putB H H' cs) h' a (CellO a v) := cell_ok (by
      obtain ⟨u, ru, ob, ho, hd⟩ := cell_at x (c a v e1)
      exact ⟨u, ru, ob, k a v _ e1 ho, hd⟩)
    rcases c a v e1 with z | ⟨ob, z⟩
    · rw [z] at e
      cases e
      exact ok
    · rw [z] at e
      cases e
      exact ⟨k a v _ e1 (x a _ z).1, ok⟩
/-- the way back, at a plain end -/
theorem un_back {fs : List Addr} (c : HasC H cs) (u : Un fs [] (takC H cs) H' h h') : Un fs [] H (putB H H' cs) h h' where
  keep := fun b o q n hb hx => u.keep b o q (by rw [takC_out (c.nil n)]; exact n) hb hx
  slot := fun b o q n hb hx => u.slot b o q (by rw [takC_out (c.nil n)]; exact n) hb hx
  free := fun b o q n hx => by
    rw [putB_out (c.nil n)]
    exact u.free b o q (by rw [takC_out (c.nil n)]; exact n) hx
  there := u.there
  tups := fun b xs q => by
    have e1 := c.out q (fun φ z => by cases z) fun ob φ z => by cases z
    rw [putB_out e1]
    exact u.tups b xs (by rw [takC_out e1]; exact q)
  frzs := fun b o xs q => by
    cases e1 : cs.lookup b with
    | some v => rw [putB_in e1]; exact q
    | none =>
      rw [putB_out e1]
      exact u.frzs b o xs (by rw [takC_out e1]; exact q)
  tbls := fun b ps q => by
    have e1 := c.out q (fun φ z => by cases z) fun ob φ z => by cases z
    rw [putB_out e1]
    exact u.tbls b ps (by rw [takC_out e1]; exact q)
theorem ce_back {outer : List Env} {s s' : Shared} {Q : VK} {u : Value} (c : HasC H cs) (nf : ∀ a v, cs.lookup a = some v → a ∉ frs outer) (x : HOk P w H s.heap)
    (e : CE outer P w (takC H cs) s (fun v H' => NoC H' cs → Q v (putB H H' cs)) u s') : CE outer P w H s Q u s' := by
  obtain ⟨v, H', os, bare, un, hok, rv, q⟩ := e
  have nc : NoC H' cs := fun a v e => by
    obtain ⟨u, ru, ob, ho, hd⟩ := cell_at x (c a v e)
    exact un.free a ob ho (takC_in e) (by simp)
  exact ⟨v, putB H H' cs, os, bare, un_back c un, hok_put x hok c nc (fun a v o e q => un.keep a o q (takC_in e) (nf a v e) (by simp)), rv, q nc⟩
theorem cx_back {outer : List Env} {s s' : Shared} {E : XK} {u : Value} (c : HasC H cs) (nf : ∀ a v, cs.lookup a = some v → a ∉ frs outer) (x : HOk P w H s.heap)
    (e : L2.CX P w outer (takC H cs) s (fun cls d H' => NoC H' cs → E cls d (putB H H' cs)) u s') : L2.CX P w outer H s E u s' := by
  obtain ⟨a, B, H', cls, d, eu, fl, hok, ub, ha, os, ag, he⟩ := e
  have nc : NoC H' cs := fun b v e => by
    obtain ⟨u, ru, ob, ho, hd⟩ := cell_at x (c b v e)
    exact ub.free b ob ho (takC_in e)
  have out : ∀ b o, H b = some o → (∀ φ, o ≠ .ext φ) → (∀ ob φ, o ≠ .frz ob (.ext φ)) → cs.lookup b = none := fun b o q n n2 => c.out q n n2
  refine ⟨a, B, putB H H' cs, cls, d, eu, fl, hok_put x hok c nc (fun b v o e q => ub.keep b o q (takC_in e) (nf b v e)), ?_, ?_, os, ag, he nc⟩
  · exact {
      keep := fun b o q n hb => ub.keep b o q (by rw [takC_out (c.nil n)]; exact n) hb
      slot := ub.slot
      free := fun b o q n => by rw [putB_out (c.nil n)]; exact ub.free b o q (by rw [takC_out (c.nil n)]; exact n)
      there := ub.there
      tups := fun b xs q => by
        have e1 := out b _ q (fun φ z => by cases z) fun ob φ z => by cases z
        rw [putB_out e1]
        exact ub.tups b xs (by rw [takC_out e1]; exact q)
      frzs := fun b o xs q => by
        cases e1 : cs.lookup b with
        | some v => rw [putB_in e1]; exact q
        | none =>
          rw [putB_out e1]
          exact ub.frzs b o xs (by rw [takC_out e1]; exact q)
      tbls := fun b ps q => by
        have e1 := out b _ q (fun φ z => by cases z) fun ob φ z => by cases z
        rw [putB_out e1]
        exact ub.tbls b ps (by rw [takC_out e1]; exact q) }
  · cases e : cs.lookup a with
    | none => rw [putB_out e]; exact ha
    | some v =>
      obtain ⟨u, ru, ob, ho, hd⟩ := cell_at x (c a v e)
      have q := ub.keep a ob ho (takC_in e) (nf a v e)
      have : B.get? a = none := fl.2.1
      rw [this] at q
      cases q
end K19

/-! ## K19Lg -/
set_option Elab.async false
set_option linter.all false
set_option maxRecDepth 100000
set_option maxHeartbeats 4000000
/-! the call of a tracked lambda -/
namespace K19
open PySem PySem.Spec PyProof.Rows L2 LamX NdefX
/-- F as a function of HandS.Nested (its body is not used) -/
abbrev LF.nf (F : LF) : NF := ⟨"<lambda>", F.qual, F.params, [], F.scope, F.cl, F.c⟩
/-- the lambda's default, if it has one -/
def DefT (H : Hp) (dV : Value) (vs : List V) : Prop := (dV = .none ∧ vs = []) ∨ ∃ t i, dV = .ref t ∧ vs = [.int i] ∧ H t = some (.tup [.int i])
/-- a tracked lambda: fr the names that it captured, ws what they hold, cs the cells -/
structure LamT (H : Hp) (f : Addr) (F : LF) (fr : List Str) (ws : List V) (cs : List (Addr × V)) (vs : List V) : Prop where
  fn : H f = some (LamO f F)
  code : H F.c = some (CodeO F.c F.qual)
  cells : HasC H cs
  cl : ∀ y c, F.cl.lookup y = some c → ∃ v, cs.lookup c = some v
  inj : ∀ x y c, F.cl.lookup x = some c → F.cl.lookup y = some c → x = y
  has : ∀ (i : Nat) (y : Str), fr[i]? = some y → ∃ c v, F.cl.lookup y = some c ∧ ws[i]? = some v ∧ cs.lookup c = some v
  len : ws.length = fr.length
  dflt : DefT H F.dV vs
/-- how its parameters are bound: none, or one by its default -/
def BindF (F : LF) (ps : List Str) : Prop := (∀ doc pm ctv, F.dV = .none → ps = [] ∧ bindArgs (F.fd doc pm ctv) ⟨[], []⟩ = pure []) ∧
  ∀ doc pm ctv (t : Addr) (u : Value), F.dV = .ref t → ∃ k, bindArgs (F.fd doc pm ctv) ⟨[], []⟩ = seqItems? (F.fd doc pm ctv).defaults >>= k ∧ k (some [u].toArray) = pure (ps.zip [u])
theorem run_lam {P : Program} {w : World} {K : PySem.W.Frag} {mg : Str → Option Value} {base : Heap} {N ps fr : List Str} {F : LF} {f : Addr} {k : Nat} {A : Around} {outer : List Env} {s : Shared} {H : Hp} {ws vs : List V} {cs : List (Addr × V)} {Q : VK} {E : XK} {te : TE}
    (S : NScope N ps fr F.scope) (hb : BindF F ps) (hl : vs.length = ps.length) (hr : Room (k + 1) A) (e0 : Env0 P w K mg base A outer s H) (L : LamT H f F fr ws cs vs)
    (hbody : Room k (A.deeper (envF F.nf f s.heap.objs.size)) → PE (ncx (L2.CX P w) P w K mg base N F.nf f A outer s (takC H cs) (fun cls d H' => NoC H' cs → E cls d (putB H H' cs))) F.body te)
    (ht : te (startF N vs (ws.map some)) (takC H cs) (fun v H' => NoC H' cs → Q v (putB H H' cs))) :
    codeAny (model P w) A (.call (.ref f) ⟨[], []⟩) (CR (L2.CX P w) outer P w H s Q E) s := by
  have lim : s.heap.NoLimit := e0.mod.nolimit.keeps fun b o e => (e0.bs b o e).1
  obtain ⟨od, sl, doc, pm, ctv, ho⟩ := lamO_at e0.hok L.fn
  have nf : ∀ a v, cs.lookup a = some v → a ∉ frs outer := fun a v e m => by
    have z := e0.frf a m
    rw [L.cells.nil z] at e
    cases e
  have hok1 : HOk P w (takC H cs) s.heap := hok_del e0.hok L.cells
  have tak0 : ∀ b, H b = none → takC H cs b = none := fun b h => by
    cases e : cs.lookup b with
    | none => rw [takC_out e]; exact h
    | some v => exact takC_in e
  have e1 : Env0 P w K mg base A outer s (takC H cs) := { e0 with
    bs := fun b o e => ⟨(e0.bs b o e).1, tak0 b (e0.bs b o e).2⟩
    frf := fun b m => tak0 b (e0.frf b m)
    hok := hok1 }
  obtain ⟨us, rus, hbind⟩ : ∃ us, Vals vs us ∧ BindsTo s (F.fd doc pm ctv) ⟨[], []⟩ (ps.zip us) := by
    rcases L.dflt with ⟨d0, rfl⟩ | ⟨t, i, d1, rfl, htt⟩
    · obtain ⟨rfl, z⟩ := hb.1 doc pm ctv d0
      exact ⟨[], .nil, BindsTo.of_eq z⟩
    · obtain ⟨_, its, r, ob, hob, hcls, n, hd⟩ := e0.hok t _ htt
      cases r with
      | cons r1 rr =>
        cases rr
        obtain ⟨k1, z1, z2⟩ := hb.2 doc pm ctv t _ d1
        exact ⟨_, .cons r1 .nil, BindsTo.of_defaults d1 hob hd z1 z2⟩
  have C : CellsAt F.cl fr (ws.map some) s.heap (takC H cs) := by
    refine ⟨by rw [List.length_map]; exact L.len, fun y c e => ?_, L.inj, fun i y e => ?_⟩
    · obtain ⟨v, hv⟩ := L.cl y c e
      obtain ⟨u, _, hc⟩ := cell_at e0.hok (L.cells c v hv)
      exact ⟨takC_in hv, _, hc⟩
    · obtain ⟨c, v, h1, h2, h3⟩ := L.has i y e
      refine ⟨c, h1, fun v' hv' => ?_⟩
      rw [List.getElem?_map, h2] at hv'
      cases hv'
      exact cell_at e0.hok (L.cells c v h3)
  refine PySem.W.kla_callFunE hr.depth ho rfl S.co S.gen rfl (codeO_at e0.hok L.code) (hbind _ _ _ _ ?_)
  refine wpAny_newFunctionEnv S.nocell (fun ⟨n, _⟩ hy => S.par n (List.of_mem_zip hy).1) (fun h₁ hns hsb => ⟨lim.fresh _ hsb, ?_⟩) S.kind
  show codeAny _ _ (.expr F.body (envF F.nf f s.heap.objs.size)) _ _
  have kp : ∀ b o, s.heap.get? b = some o → h₁.get? b = some o := fun b o e => hsb.extBut b o (Nat.ne_of_lt (Heap.lt_size e)) (Heap.get?_push_of_some _ e)
  have I : Inv (ncx (L2.CX P w) P w K mg base N F.nf f A outer s (takC H cs) (fun cls d H' => NoC H' cs → E cls d (putB H H' cs))) [] (startF N vs (ws.map some)) (takC H cs) { s with heap := h₁, toks := s.toks + (ps.zip us).length } := inv_startN (F := F.nf) S hr.hd e1 hl rus C hns kp
  refine PySem.W.kla_codeExpr (wpAny_mono ((hbody (hr.deeper _)).run [] _ _ _ _ I ht) (fun v s' hq => ?_) fun e s' hq => ?_)
  · obtain ⟨v', H', J, rv, q⟩ := hq
    exact ce_back L.cells nf e0.hok ⟨v', H', J.os, J.bare, J.base, J.hok, rv, q⟩
  · exact wpAny_mono hq (fun _ s'' z => cx_back L.cells nf e0.hok z) fun e' s'' z => cx_back L.cells nf e0.hok z
/-- the function at f keeps the promise sp, called without arguments -/
def LamRun (P : Program) (w : World) (K : PySem.W.Frag) (mg : Str → Option Value) (base : Heap) (k : Nat) (f : Addr) (sp : XK → Hp → VK → Prop) : Prop :=
  ∀ (A : Around) (outer : List Env) (s : Shared) (H : Hp) (Q : VK) (E : XK), Room k A → Env0 P w K mg base A outer s H → sp E H Q → codeAny (model P w) A (.call (.ref f) ⟨[], []⟩) (CR (L2.CX P w) outer P w H s Q E) s
/-- x(), x a variable that holds a tracked lambda -/
def tCL (P : Program) (w : World) (K : PySem.W.Frag) (mg : Str → Option Value) (base : Heap) (k i : Nat) (E : XK) : TE := fun σ H Q => ∃ f F sp, σ[i]? = some (some (.ref f)) ∧ H f = some (LamO f F) ∧ LamRun P w K mg base k f sp ∧ sp E H Q
theorem pe_calllam {X : Cx} {k j i : Nat} {x : Str} {E : XK} {p1 p2 : Pos} (hr : Room j X.A) (hk : k ≤ j) (hx : Passes (L2.CX X.prog X.w) X E) (hN : X.N[i]? = some x) (hv : Vis X.env.scope x)
    (hd : (x == ("__debug__" : Str)) = false := by decide) (hcd : (x == ("__classdict__" : Str)) = false := by decide) : PE X (.Call (.Name x p1) [] [] p2) (tCL X.prog X.w X.K X.mg X.base k i E) := by
  refine ⟨fun pins s σ H Q I h => ?_⟩
  obtain ⟨f, F, sp, hs, hF, hrun, h⟩ := h
  refine wpAny_Call_Name_kw (thn ((pe_var (pos := p1) (i := i) hN hv hd hcd).run pins s σ H (fun v H1 => v = .ref f ∧ H1 = H) I ⟨.ref f, hs, rfl, rfl⟩) fun u s1 ⟨v, H1, I1, r1, e1, e2⟩ => ?_)
  subst e1
  subst e2
  obtain rfl : u = Value.ref f := r1
  obtain ⟨od, sl, doc, pm, ctv, ho⟩ := lamO_at I1.hok hF
  refine PySem.W.callWith_F0 ⟨_, _, _, _, ho⟩ ?_
  refine wpAny_call (codeAny_mono (hrun X.A X.stack s1 H1 Q E (hr.mono hk) I1.env0 h) fun r s2 hq => ?_)
  cases r with
  | error e => exact hx pins σ H1 s1 e s2 I1 hq
  | ok fl =>
    cases fl with
    | ret u => exact I1.after hq
    | next => exact False.elim hq
    | brk => exact False.elim hq
    | cont => exact False.elim hq
end K19

/-! ## K19Lh -/
set_option Elab.async false
set_option linter.all false
set_option maxRecDepth 100000
set_option maxHeartbeats 4000000
namespace K19
open PySem PySem.Spec PyProof.Rows L2 Evl LamX

theorem sc__law_told : FnScope ["_law_work", "_law_some", "_law_terms", "_law_k", "_law_e"] p__law_told (defScope s__law_told) := ⟨rfl, rfl, rfl, by decide +kernel, rfl, by decide +kernel, by decide +kernel⟩
theorem call_isEK {X : Cx} {a D : Addr} {oe : Obj} {pn : List (Addr × Obj)} (K : PySem.W.Frag) (C : ExcC K D) (hz : Zc (.ref D) none oe) (hf : ∃ vs, oe.data = .fields vs) (h : X.K = K := by rfl) : CallR (X.suite a ((a, oe) :: pn)) (.builtin "isinstance") (rIsE K D a) := by
  subst h
  exact call_isE C hz hf
theorem call_isXK {X : Cx} {a D dd : Addr} {oe : Obj} {pn : List (Addr × Obj)} (K : PySem.W.Frag) (C : ExcC K D) (hz : Zc (.ref D) (some dd) oe) (hf : ∃ vs, oe.data = .fields vs) (h : X.K = K := by rfl) : CallR (X.suite a ((a, oe) :: pn)) (.builtin "isinstance") (rIsX K D a dd) := by
  subst h
  exact call_isX C hz hf
theorem mt_indexK {X : Cx} (K : PySem.W.Frag) (h : X.K = K := by rfl) : MtR X "list.index" (rIndex K) := by
  subst h
  exact mt_index
theorem mt_countK {X : Cx} (K : PySem.W.Frag) (h : X.K = K := by rfl) : MtR X "list.count" (rCount K) := by
  subst h
  exact K19.mt_count
theorem pe_xfK {X : Cx} {a C : Addr} {oe : Obj} {cls : Value} {d : Option Addr} {pn : List (Addr × Obj)} {e : Expr} {te : TE} {pos : Pos} {n : Str} (K : PySem.W.Frag) (T : XfC K C) (hno : PySem.W.findIn K (.ref C) n = some none)
    (hz : Zc cls d oe) (hf : ∃ vs, oe.data = .fields vs) (he : PE (X.suite a ((a, oe) :: pn)) e te) (hK : X.K = K := by rfl) (hb : attributeBase e n X.env (eval e X.env) = eval e X.env := by rfl) :
    PE (X.suite a ((a, oe) :: pn)) (.Attribute e n pos) (tXf a cls d C n te) := by
  subst hK
  exact pe_xf T hno hz hf he hb
def toldSuite : List Stmt := match defBody s__law_told with
  | .Try _ (.ExceptHandler _ _ b _ :: _) _ _ _ :: _ => b
  | _ => []
section
variable {P : Program} {w : World} {K : PySem.W.Frag} {mg : Str → Option Value} {base : Heap}
theorem excU_ok (T : Txt K mg) : ExcC K (He.ga K "Unsatisfiable") := by
  have h := T.x4.2.1
  unfold exU at h
  simp only [Bool.and_eq_true] at h
  exact excB_ok h.1
theorem excC_ok (T : Txt K mg) : ExcC K (He.ga K "Conflict") := by
  have h := T.x4.2.2.1
  unfold exC at h
  simp only [Bool.and_eq_true] at h
  exact excB_ok h.1
theorem kit7 {C : Addr} {bs : List (Str × Bool)} (h : exc7 K C bs = true) : ∀ p ∈ bs, PySem.W.kitOne K (.ref C) (.ref (He.ga K p.1)) = some p.2 := fun p hp => by
  unfold exc7 at h
  have z := List.all_eq_true.mp h p hp
  unfold kitB7 at z
  exact of_decide_eq_true z
theorem kitU (T : Txt K mg) : (∀ p ∈ seven "Unsatisfiable", PySem.W.kitOne K (.ref (He.ga K "Unsatisfiable")) (.ref (He.ga K p.1)) = some p.2) ∧ PySem.W.kitOne K (.ref (He.ga K "Unsatisfiable")) (.type "ValueError") = some true := by
  have h := T.x4.2.1
  unfold exU at h
  simp only [Bool.and_eq_true, decide_eq_true_eq] at h
  exact ⟨kit7 h.2.1, h.2.2⟩
theorem kitC (T : Txt K mg) : (∀ p ∈ seven "Conflict", PySem.W.kitOne K (.ref (He.ga K "Conflict")) (.ref (He.ga K p.1)) = some p.2) ∧ PySem.W.kitOne K (.ref (He.ga K "Conflict")) (.type "ValueError") = some true := by
  have h := T.x4.2.2.1
  unfold exC at h
  simp only [Bool.and_eq_true, decide_eq_true_eq] at h
  exact ⟨kit7 h.2.1, h.2.2⟩
theorem xfC_ok (T : Txt K mg) : XfC K (He.ga K "Conflict") := ⟨(excC_ok T).hg, (excC_ok T).hk, (excC_ok T).hs, (excC_ok T).hd⟩
theorem chain_no (T : Txt K mg) : PySem.W.findIn K (.ref (He.ga K "Conflict")) "chain" = some none := by
  have h := T.x4.2.2.2
  unfold exO at h
  simp only [Bool.and_eq_true] at h
  exact He.eqO_ok h.2.2.2.1
theorem suite_U (T : Txt K mg) (cdv : Value) (A : Around) (outer : List Env) (s : Shared) (H : Hp) (E : XK) (a : Addr) : ∃ t : TS, (∀ (oe : Obj) (pn : List (Addr × Obj)), Zc (.ref (He.ga K "Unsatisfiable")) none oe → (∃ vs, oe.data = .fields vs) →
    PSs ((cxOf CX0 P w K mg base ["_law_work", "_law_some", "_law_terms", "_law_k", "_law_e"] "_law_told" (defScope s__law_told) (He.ga K "_law_told") cdv A outer s H E).nox.suite a ((a, oe) :: pn)) toldSuite t) ∧
    ∀ D f H1, (∀ p H', Ex H1 H' → H' p = some (.tup [.str "error", .str "Unsatisfiable"]) → D.rt (.ref p) H') → t D [some f, none, none, none, some (.ref a)] H1 := by
  refine ⟨_, fun oe pn hz hf => (pss_cons (ps_set (i := 1) sc__law_told.nd rfl (Or.inl rfl) (pe_lst (pa_cons (pe_callB (call_isEK K (excU_ok T) hz hf) rfl T.f_isinstance bt_isinstance (pa_cons (pv 4) (pa_cons (pe_glob (v := .ref (He.ga K "InvalidGrammar")) rfl T.g_InvalidGrammar rfl) pa_nil))) (pa_cons (pe_callB (call_isEK K (excU_ok T) hz hf) rfl T.f_isinstance bt_isinstance (pa_cons (pv 4) (pa_cons (pe_glob (v := .ref (He.ga K "UnknownOption")) rfl T.g_UnknownOption rfl) pa_nil))) (pa_cons (pe_callB (call_isEK K (excU_ok T) hz hf) rfl T.f_isinstance bt_isinstance (pa_cons (pv 4) (pa_cons (pe_glob (v := .ref (He.ga K "InvalidClause")) rfl T.g_InvalidClause rfl) pa_nil))) pa_nil)))))
      (pss_cons (ps_set (i := 1) sc__law_told.nd rfl (Or.inl rfl) (pe_op op_cat (pv 1) (pe_lst (pa_cons (pe_callB (call_isEK K (excU_ok T) hz hf) rfl T.f_isinstance bt_isinstance (pa_cons (pv 4) (pa_cons (pe_glob (v := .ref (He.ga K "InvalidChain")) rfl T.g_InvalidChain rfl) pa_nil))) (pa_cons (pe_callB (call_isEK K (excU_ok T) hz hf) rfl T.f_isinstance bt_isinstance (pa_cons (pv 4) (pa_cons (pe_glob (v := .ref (He.ga K "Unsatisfiable")) rfl T.g_Unsatisfiable rfl) pa_nil))) (pa_cons (pe_callB (call_isEK K (excU_ok T) hz hf) rfl T.f_isinstance bt_isinstance (pa_cons (pv 4) (pa_cons (pe_glob (v := .ref (He.ga K "Conflict")) rfl T.g_Conflict rfl) pa_nil))) pa_nil))))))
      (pss_cons (ps_expr (pe_bmK K PySem.F.plainAttrs_list PySem.F.slot_list_append PySem.F.type_list_append mt_append (pv 1) (pa_cons (pe_callB (call_isEK K (excU_ok T) hz hf) rfl T.f_isinstance bt_isinstance (pa_cons (pv 4) (pa_cons (pe_glob (v := .ref (He.ga K "DifferentOptions")) rfl T.g_DifferentOptions rfl) pa_nil))) pa_nil)))
      (pss_cons (ps_set (i := 2) sc__law_told.nd rfl (Or.inl rfl) (pe_lst (pa_cons pe_str (pa_cons pe_str (pa_cons pe_str (pa_cons pe_str (pa_cons pe_str (pa_cons pe_str pa_nil))))))))
      (pss_cons (ps_expr (pe_bmK K PySem.F.plainAttrs_list PySem.F.slot_list_append PySem.F.type_list_append mt_append (pv 2) (pa_cons pe_str pa_nil)))
      (pss_cons (ps_set (i := 3) sc__law_told.nd rfl (Or.inl rfl) (pe_ifExp (PW.pt (pw_and (pt_cmpR op_eq (pe_bmK K PySem.F.plainAttrs_list PySem.F.slot_list_count PySem.F.type_list_count (mt_countK K) (pv 1) (pa_cons pe_bl pa_nil)) pe_int (nomark _)) (pw_and1 (pt_val (pe_callB (call_isEK K (excU_ok T) hz hf) rfl T.f_isinstance bt_isinstance (pa_cons (pv 4) (pa_cons (pe_bltn (v := .ty "ValueError") rfl T.f_ValueError bt_ValueError rfl) pa_nil))))))) (pe_bmK K PySem.F.plainAttrs_list PySem.F.slot_list_index PySem.F.type_list_index (mt_indexK K) (pv 1) (pa_cons pe_bl pa_nil)) pe_int))
      (pss_cons (ps_if (pt_cmpR op_eq (pv 3) pe_int (nomark _)) pss_never pss_nil)
      (pss_cons (ps_if (pt_cmpR op_eq (pv 3) pe_int (nomark _)) pss_never pss_nil)
      (pss_cons (ps_if (pt_cmpR op_eq (pv 3) pe_int (nomark _)) pss_never pss_nil)
      (pss_cons (ps_if (pt_cmpR op_eq (pv 3) pe_int (nomark _)) pss_never pss_nil)
      (pss_one (ps_ret (pe_tup (pa_cons pe_str (pa_cons (pe_ifExp (pt_cmpR op_lt (pv 3) pe_int (nomark _)) (pe_ix (ixL K) (pv 2) (pv 3) (fun _ _ => rfl)) pe_str) pa_nil))))))))))))))), fun D f H1 k => ?_⟩
  have kU := kitU T
  have k0 : PySem.W.kitOne K (.ref (He.ga K "Unsatisfiable")) (.ref (He.ga K "InvalidGrammar")) = some false := kU.1 ("InvalidGrammar", false) (by decide)
  have k1 : PySem.W.kitOne K (.ref (He.ga K "Unsatisfiable")) (.ref (He.ga K "UnknownOption")) = some false := kU.1 ("UnknownOption", false) (by decide)
  have k2 : PySem.W.kitOne K (.ref (He.ga K "Unsatisfiable")) (.ref (He.ga K "InvalidClause")) = some false := kU.1 ("InvalidClause", false) (by decide)
  have k3 : PySem.W.kitOne K (.ref (He.ga K "Unsatisfiable")) (.ref (He.ga K "InvalidChain")) = some false := kU.1 ("InvalidChain", false) (by decide)
  have k4 : PySem.W.kitOne K (.ref (He.ga K "Unsatisfiable")) (.ref (He.ga K "Unsatisfiable")) = some true := kU.1 ("Unsatisfiable", true) (by decide)
  have k5 : PySem.W.kitOne K (.ref (He.ga K "Unsatisfiable")) (.ref (He.ga K "Conflict")) = some false := kU.1 ("Conflict", false) (by decide)
  have k6 : PySem.W.kitOne K (.ref (He.ga K "Unsatisfiable")) (.ref (He.ga K "DifferentOptions")) = some false := kU.1 ("DifferentOptions", false) (by decide)
  refine ⟨_, rfl, _, _, _, rfl, fun u h => h, k0, _, rfl, _, _, _, rfl, fun u h => h, k1, _, rfl, _, _, _, rfl, fun u h => h, k2, by show 3 ≤ sizeLine; decide, fun p1 hp1 => ?_⟩
  have e1 := Ex.new (o := .lst [V.bl false, .bl false, .bl false]) hp1
  refine ⟨_, rfl, _, rfl, _, _, _, rfl, fun u h => h, k3, _, rfl, _, _, _, rfl, fun u h => h, k4, _, rfl, _, _, _, rfl, fun u h => h, k5, by show 3 ≤ sizeLine; decide, fun p2 hp2 => ?_⟩
  have e2 := Ex.new (o := .lst [V.bl false, .bl true, .bl false]) hp2
  refine ⟨p1, p2, _, _, rfl, rfl, e2 _ _ upd_same, upd_same, by decide, fun p3 hp3 => ?_⟩
  have e3 := Ex.new (o := .lst ([V.bl false, .bl false, .bl false] ++ [V.bl false, .bl true, .bl false])) hp3
  refine ⟨_, rfl, .inl ⟨rfl, _, sq_of upd_same⟩, _, rfl, _, _, _, rfl, fun u h => h, k6, p3, _, _, rfl, rfl, upd_same, by decide, ?_⟩
  have n3 : H1 p3 = none := fresh_back (e1.trans e2) hp3
  have e4 := Ex.mut (o := .lst ([V.bl false, .bl false, .bl false] ++ [V.bl false, .bl true, .bl false] ++ [.bl false])) ((e1.trans e2).trans e3) n3
  generalize hH4 : upd (upd _ p3 _) p3 _ = H4
  rw [hH4] at e4
  have h4 : H4 p3 = some (.lst [V.bl false, .bl false, .bl false, .bl false, .bl true, .bl false, .bl false]) := by rw [← hH4]; exact upd_same
  clear hH4
  refine ⟨by show 6 ≤ sizeLine; decide, fun p4 hp4 => ?_⟩
  have e5 := Ex.new (o := .lst [V.str "InvalidGrammar", .str "UnknownOption", .str "InvalidClause", .str "InvalidChain", .str "Unsatisfiable", .str "Conflict"]) hp4
  refine ⟨_, rfl, .inl ⟨rfl, _, sq_of upd_same⟩, p4, _, _, rfl, rfl, upd_same, by decide, ?_⟩
  have e6 := Ex.mut (o := .lst ([V.str "InvalidGrammar", .str "UnknownOption", .str "InvalidClause", .str "InvalidChain", .str "Unsatisfiable", .str "Conflict"] ++ [.str "DifferentOptions"])) (e4.trans e5) (fresh_back e4 hp4)
  have n43 : p3 ≠ p4 := fun z => by rw [← z, h4] at hp4; cases hp4
  generalize hH6 : upd (upd _ p4 _) p4 _ = H6
  rw [hH6] at e6
  have h6 : H6 p4 = some (.lst [V.str "InvalidGrammar", .str "UnknownOption", .str "InvalidClause", .str "InvalidChain", .str "Unsatisfiable", .str "Conflict", .str "DifferentOptions"]) := by rw [← hH6]; exact upd_same
  have h63 : H6 p3 = some (.lst [V.bl false, .bl false, .bl false, .bl false, .bl true, .bl false, .bl false]) := by rw [← hH6, upd_ne n43, upd_ne n43]; exact h4
  clear hH6
  refine ⟨_, rfl, .inl ⟨rfl, _, sq_of h63⟩, p3, _, _, rfl, rfl, sq_of h63, rfl, rfl, rfl, true, blT rfl, iteT ?_⟩
  refine ⟨_, rfl, _, _, _, rfl, fun u h => h, kU.2, true, rfl, iteT ?_⟩
  refine ⟨_, rfl, .inl ⟨rfl, _, sq_of h63⟩, p3, _, _, 4, _, rfl, rfl, sq_of h63, rfl, rfl, rfl, rfl, fun m z hm hz => ?_, ?_⟩
  · have : m = 0 ∨ m = 1 ∨ m = 2 ∨ m = 3 := by omega
    rcases this with rfl | rfl | rfl | rfl <;> cases hz <;> rfl
  refine ⟨_, rfl, rfl, false, blF (by decide), iteF ?_⟩
  refine ⟨_, rfl, rfl, false, blF (by decide), iteF ?_⟩
  refine ⟨_, rfl, rfl, false, blF (by decide), iteF ?_⟩
  refine ⟨_, rfl, rfl, false, blF (by decide), iteF ?_⟩
  refine ⟨_, rfl, _, _, rfl, rfl, true, blT (by decide), iteT ?_⟩
  refine ⟨_, rfl, _, rfl, _, _, _, _, rfl, rfl, sq_of h6, atI_nat (j := 4) rfl, by show 2 ≤ sizeLine; decide, fun p7 hp7 => ?_⟩
  exact k p7 _ (e6.trans (Ex.new hp7)) upd_same
theorem suite_C (T : Txt K mg) (cdv : Value) (A : Around) (outer : List Env) (s : Shared) (H : Hp) (E : XK) (a dd : Addr) : ∃ t : TS, (∀ (oe : Obj) (pn : List (Addr × Obj)), Zc (.ref (He.ga K "Conflict")) (some dd) oe → (∃ vs, oe.data = .fields vs) →
    PSs ((cxOf CX0 P w K mg base ["_law_work", "_law_some", "_law_terms", "_law_k", "_law_e"] "_law_told" (defScope s__law_told) (He.ga K "_law_told") cdv A outer s H E).nox.suite a ((a, oe) :: pn)) toldSuite t) ∧
    ∀ D f H1 vt, H1 dd = some (.xd [("chain", vt)]) → (∀ p H', Ex H1 H' → H' p = some (.tup [.str "error", .str "Conflict", vt]) → D.rt (.ref p) H') → t D [some f, none, none, none, some (.ref a)] H1 := by
  refine ⟨_, fun oe pn hz hf => (pss_cons (ps_set (i := 1) sc__law_told.nd rfl (Or.inl rfl) (pe_lst (pa_cons (pe_callB (call_isXK K (excC_ok T) hz hf) rfl T.f_isinstance bt_isinstance (pa_cons (pv 4) (pa_cons (pe_glob (v := .ref (He.ga K "InvalidGrammar")) rfl T.g_InvalidGrammar rfl) pa_nil))) (pa_cons (pe_callB (call_isXK K (excC_ok T) hz hf) rfl T.f_isinstance bt_isinstance (pa_cons (pv 4) (pa_cons (pe_glob (v := .ref (He.ga K "UnknownOption")) rfl T.g_UnknownOption rfl) pa_nil))) (pa_cons (pe_callB (call_isXK K (excC_ok T) hz hf) rfl T.f_isinstance bt_isinstance (pa_cons (pv 4) (pa_cons (pe_glob (v := .ref (He.ga K "InvalidClause")) rfl T.g_InvalidClause rfl) pa_nil))) pa_nil)))))
      (pss_cons (ps_set (i := 1) sc__law_told.nd rfl (Or.inl rfl) (pe_op op_cat (pv 1) (pe_lst (pa_cons (pe_callB (call_isXK K (excC_ok T) hz hf) rfl T.f_isinstance bt_isinstance (pa_cons (pv 4) (pa_cons (pe_glob (v := .ref (He.ga K "InvalidChain")) rfl T.g_InvalidChain rfl) pa_nil))) (pa_cons (pe_callB (call_isXK K (excC_ok T) hz hf) rfl T.f_isinstance bt_isinstance (pa_cons (pv 4) (pa_cons (pe_glob (v := .ref (He.ga K "Unsatisfiable")) rfl T.g_Unsatisfiable rfl) pa_nil))) (pa_cons (pe_callB (call_isXK K (excC_ok T) hz hf) rfl T.f_isinstance bt_isinstance (pa_cons (pv 4) (pa_cons (pe_glob (v := .ref (He.ga K "Conflict")) rfl T.g_Conflict rfl) pa_nil))) pa_nil))))))
      (pss_cons (ps_expr (pe_bmK K PySem.F.plainAttrs_list PySem.F.slot_list_append PySem.F.type_list_append mt_append (pv 1) (pa_cons (pe_callB (call_isXK K (excC_ok T) hz hf) rfl T.f_isinstance bt_isinstance (pa_cons (pv 4) (pa_cons (pe_glob (v := .ref (He.ga K "DifferentOptions")) rfl T.g_DifferentOptions rfl) pa_nil))) pa_nil)))
      (pss_cons (ps_set (i := 2) sc__law_told.nd rfl (Or.inl rfl) (pe_lst (pa_cons pe_str (pa_cons pe_str (pa_cons pe_str (pa_cons pe_str (pa_cons pe_str (pa_cons pe_str pa_nil))))))))
      (pss_cons (ps_expr (pe_bmK K PySem.F.plainAttrs_list PySem.F.slot_list_append PySem.F.type_list_append mt_append (pv 2) (pa_cons pe_str pa_nil)))
      (pss_cons (ps_set (i := 3) sc__law_told.nd rfl (Or.inl rfl) (pe_ifExp (PW.pt (pw_and (pt_cmpR op_eq (pe_bmK K PySem.F.plainAttrs_list PySem.F.slot_list_count PySem.F.type_list_count (mt_countK K) (pv 1) (pa_cons pe_bl pa_nil)) pe_int (nomark _)) (pw_and1 (pt_val (pe_callB (call_isXK K (excC_ok T) hz hf) rfl T.f_isinstance bt_isinstance (pa_cons (pv 4) (pa_cons (pe_bltn (v := .ty "ValueError") rfl T.f_ValueError bt_ValueError rfl) pa_nil))))))) (pe_bmK K PySem.F.plainAttrs_list PySem.F.slot_list_index PySem.F.type_list_index (mt_indexK K) (pv 1) (pa_cons pe_bl pa_nil)) pe_int))
      (pss_cons (ps_if (pt_cmpR op_eq (pv 3) pe_int (nomark _)) pss_never pss_nil)
      (pss_cons (ps_if (pt_cmpR op_eq (pv 3) pe_int (nomark _)) pss_never pss_nil)
      (pss_cons (ps_if (pt_cmpR op_eq (pv 3) pe_int (nomark _)) pss_never pss_nil)
      (pss_cons (ps_if (pt_cmpR op_eq (pv 3) pe_int (nomark _)) (pss_one (ps_ret (pe_tup (pa_cons pe_str (pa_cons (pe_ix (ixL K) (pv 2) (pv 3) (fun _ _ => rfl)) (pa_cons (pe_xfK K (xfC_ok T) (chain_no T) hz hf (pv 4)) pa_nil)))))) pss_nil)
      (pss_one (ps_ret (pe_tup (pa_cons pe_str (pa_cons (pe_ifExp (pt_cmpR op_lt (pv 3) pe_int (nomark _)) (pe_ix (ixL K) (pv 2) (pv 3) (fun _ _ => rfl)) pe_str) pa_nil))))))))))))))), fun D f H1 vt hdd k => ?_⟩
  have kU := kitC T
  have k0 : PySem.W.kitOne K (.ref (He.ga K "Conflict")) (.ref (He.ga K "InvalidGrammar")) = some false := kU.1 ("InvalidGrammar", false) (by decide)
  have k1 : PySem.W.kitOne K (.ref (He.ga K "Conflict")) (.ref (He.ga K "UnknownOption")) = some false := kU.1 ("UnknownOption", false) (by decide)
  have k2 : PySem.W.kitOne K (.ref (He.ga K "Conflict")) (.ref (He.ga K "InvalidClause")) = some false := kU.1 ("InvalidClause", false) (by decide)
  have k3 : PySem.W.kitOne K (.ref (He.ga K "Conflict")) (.ref (He.ga K "InvalidChain")) = some false := kU.1 ("InvalidChain", false) (by decide)
  have k4 : PySem.W.kitOne K (.ref (He.ga K "Conflict")) (.ref (He.ga K "Unsatisfiable")) = some false := kU.1 ("Unsatisfiable", false) (by decide)
  have k5 : PySem.W.kitOne K (.ref (He.ga K "Conflict")) (.ref (He.ga K "Conflict")) = some true := kU.1 ("Conflict", true) (by decide)
  have k6 : PySem.W.kitOne K (.ref (He.ga K "Conflict")) (.ref (He.ga K "DifferentOptions")) = some false := kU.1 ("DifferentOptions", false) (by decide)
  refine ⟨_, rfl, _, _, _, _, rfl, fun u h => h, k0, hdd, _, rfl, _, _, _, _, rfl, fun u h => h, k1, hdd, _, rfl, _, _, _, _, rfl, fun u h => h, k2, hdd, by show 3 ≤ sizeLine; decide, fun p1 hp1 => ?_⟩
  have e1 := Ex.new (o := .lst [V.bl false, .bl false, .bl false]) hp1
  refine ⟨_, rfl, _, rfl, _, _, _, _, rfl, fun u h => h, k3, (e1 _ _ hdd), _, rfl, _, _, _, _, rfl, fun u h => h, k4, (e1 _ _ hdd), _, rfl, _, _, _, _, rfl, fun u h => h, k5, (e1 _ _ hdd), by show 3 ≤ sizeLine; decide, fun p2 hp2 => ?_⟩
  have e2 := Ex.new (o := .lst [V.bl false, .bl false, .bl true]) hp2
  refine ⟨p1, p2, _, _, rfl, rfl, e2 _ _ upd_same, upd_same, by decide, fun p3 hp3 => ?_⟩
  have e3 := Ex.new (o := .lst ([V.bl false, .bl false, .bl false] ++ [V.bl false, .bl false, .bl true])) hp3
  refine ⟨_, rfl, .inl ⟨rfl, _, sq_of upd_same⟩, _, rfl, _, _, _, _, rfl, fun u h => h, k6, ((e1.trans (e2.trans e3)) _ _ hdd), p3, _, _, rfl, rfl, upd_same, by decide, ?_⟩
  have n3 : H1 p3 = none := fresh_back (e1.trans e2) hp3
  have e4 := Ex.mut (o := .lst ([V.bl false, .bl false, .bl false] ++ [V.bl false, .bl false, .bl true] ++ [.bl false])) ((e1.trans e2).trans e3) n3
  generalize hH4 : upd (upd _ p3 _) p3 _ = H4
  rw [hH4] at e4
  have h4 : H4 p3 = some (.lst [V.bl false, .bl false, .bl false, .bl false, .bl false, .bl true, .bl false]) := by rw [← hH4]; exact upd_same
  clear hH4
  refine ⟨by show 6 ≤ sizeLine; decide, fun p4 hp4 => ?_⟩
  have e5 := Ex.new (o := .lst [V.str "InvalidGrammar", .str "UnknownOption", .str "InvalidClause", .str "InvalidChain", .str "Unsatisfiable", .str "Conflict"]) hp4
  refine ⟨_, rfl, .inl ⟨rfl, _, sq_of upd_same⟩, p4, _, _, rfl, rfl, upd_same, by decide, ?_⟩
  have e6 := Ex.mut (o := .lst ([V.str "InvalidGrammar", .str "UnknownOption", .str "InvalidClause", .str "InvalidChain", .str "Unsatisfiable", .str "Conflict"] ++ [.str "DifferentOptions"])) (e4.trans e5) (fresh_back e4 hp4)
  have n43 : p3 ≠ p4 := fun z => by rw [← z, h4] at hp4; cases hp4
  generalize hH6 : upd (upd _ p4 _) p4 _ = H6
  rw [hH6] at e6
  have h6 : H6 p4 = some (.lst [V.str "InvalidGrammar", .str "UnknownOption", .str "InvalidClause", .str "InvalidChain", .str "Unsatisfiable", .str "Conflict", .str "DifferentOptions"]) := by rw [← hH6]; exact upd_same
  have h63 : H6 p3 = some (.lst [V.bl false, .bl false, .bl false, .bl false, .bl false, .bl true, .bl false]) := by rw [← hH6, upd_ne n43, upd_ne n43]; exact h4
  clear hH6
  refine ⟨_, rfl, .inl ⟨rfl, _, sq_of h63⟩, p3, _, _, rfl, rfl, sq_of h63, rfl, rfl, rfl, true, blT rfl, iteT ?_⟩
  refine ⟨_, rfl, _, _, _, _, rfl, fun u h => h, kU.2, e6 _ _ hdd, true, rfl, iteT ?_⟩
  refine ⟨_, rfl, .inl ⟨rfl, _, sq_of h63⟩, p3, _, _, 5, _, rfl, rfl, sq_of h63, rfl, rfl, rfl, rfl, fun m z hm hz => ?_, ?_⟩
  · have : m = 0 ∨ m = 1 ∨ m = 2 ∨ m = 3 ∨ m = 4 := by omega
    rcases this with rfl | rfl | rfl | rfl | rfl <;> cases hz <;> rfl
  refine ⟨_, rfl, rfl, false, blF (by decide), iteF ?_⟩
  refine ⟨_, rfl, rfl, false, blF (by decide), iteF ?_⟩
  refine ⟨_, rfl, rfl, false, blF (by decide), iteF ?_⟩
  refine ⟨_, rfl, rfl, true, blT rfl, iteT ?_⟩
  refine ⟨_, rfl, _, rfl, _, _, _, _, rfl, rfl, sq_of h6, atI_nat (j := 5) rfl, _, rfl, rfl, rfl, dd, _, vt, rfl, e6 _ _ hdd, rfl, by show 3 ≤ sizeLine; decide, fun p7 hp7 => ?_⟩
  exact k p7 _ (e6.trans (Ex.new hp7)) upd_same
end
end K19

/-! ## K19Li -/
set_option Elab.async false
set_option linter.all false
set_option maxRecDepth 100000
set_option maxHeartbeats 4000000
namespace K19
open PySem PySem.Spec PyProof.Rows L2 Evl LamX
theorem run_calllam {X : Cx} {k j i : Nat} {x : Str} {E : XK} {p1 p2 : Pos} {pins : List (Addr × Obj)} {s : Shared} {σ : L2.St} {H : Hp} {Q : VK} (hr : Room j X.A) (hk : k ≤ j) (I : Inv X pins σ H s)
    (hx : ∀ H1 s1 e s', Inv X pins σ H1 s1 → L2.CX X.prog X.w X.stack H1 s1 E e s' → X.xe e s') (hN : X.N[i]? = some x) (hv : Vis X.env.scope x)
    (h : tCL X.prog X.w X.K X.mg X.base k i E σ H Q) (hd : (x == ("__debug__" : Str)) = false := by decide) (hcd : (x == ("__classdict__" : Str)) = false := by decide) : wpAny (model X.prog X.w) X.A (eval (.Call (.Name x p1) [] [] p2) X.env) (EP X pins σ Q) X.xe s := by
  obtain ⟨f, F, sp, hs, hF, hrun, h⟩ := h
  refine wpAny_Call_Name_kw (thn ((pe_var (pos := p1) (i := i) hN hv hd hcd).run pins s σ H (fun v H1 => v = .ref f ∧ H1 = H) I ⟨.ref f, hs, rfl, rfl⟩) fun u s1 ⟨v, H1, I1, r1, e1, e2⟩ => ?_)
  subst e1
  subst e2
  obtain rfl : u = Value.ref f := r1
  obtain ⟨od, sl, doc, pm, ctv, ho⟩ := lamO_at I1.hok hF
  refine PySem.W.callWith_F0 ⟨_, _, _, _, ho⟩ ?_
  refine wpAny_call (codeAny_mono (hrun X.A X.stack s1 H1 Q E (hr.mono hk) I1.env0 h) fun r s2 hq => ?_)
  cases r with
  | error e => exact hx H1 s1 e s2 I1 hq
  | ok fl =>
    cases fl with
    | ret u => exact I1.after hq
    | next => exact False.elim hq
    | brk => exact False.elim hq
    | cont => exact False.elim hq
/-- the errors that told takes -/
def toldE (K : PySem.W.Frag) (Q : VK) : XK := fun cls d H => (cls = .ref (He.ga K "Unsatisfiable") ∧ d = none ∧ ∀ p H', Ex H H' → H' p = some (.tup [.str "error", .str "Unsatisfiable"]) → Q (.ref p) H') ∨
  ∃ dd vt, cls = .ref (He.ga K "Conflict") ∧ d = some dd ∧ H dd = some (.xd [("chain", vt)]) ∧ ∀ p H', Ex H H' → H' p = some (.tup [.str "error", .str "Conflict", vt]) → Q (.ref p) H'
def spTold (P : Program) (w : World) (K : PySem.W.Frag) (mg : Str → Option Value) (base : Heap) (k : Nat) : Sp := fun vs H Q _ => ∃ f F sp, vs = [.ref f] ∧ H f = some (LamO f F) ∧ LamRun P w K mg base k f sp ∧ sp (toldE K Q) H Q
section
variable {P : Program} {w : World} {K : PySem.W.Frag} {mg : Str → Option Value} {base : Heap} {k : Nat}
open Classical in
theorem ok__law_told (T : Txt K mg) : Cal P w K mg base CX0 (k + 1) "_law_told" (spTold P w K mg base k) := by
  refine cal0 (N := ["_law_work", "_law_some", "_law_terms", "_law_k", "_law_e"]) T.D__law_told T.g__law_told sc__law_told (fun vs H Q E h => ?_) fun cdv A outer s H vs Q E hr h => ?_
  · obtain ⟨_, _, _, rfl, _⟩ := h; rfl
  · obtain ⟨f, F, sp, rfl, hF, hrun, h⟩ := h
    have sU := suite_U (P := P) (w := w) (mg := mg) (base := base) T cdv A outer s H E
    have sC := suite_C (P := P) (w := w) (mg := mg) (base := base) T cdv A outer s H E
    let ts : Addr → Value → Option Addr → TS := fun a cls d => match d with
      | none => if cls = .ref (He.ga K "Unsatisfiable") then (sU a).choose else tNever
      | some dd => if cls = .ref (He.ga K "Conflict") then (sC a dd).choose else tNever
    refine ⟨_, pss_one (ps_try_as (X := (cxOf CX0 P w K mg base ["_law_work", "_law_some", "_law_terms", "_law_k", "_law_e"] "_law_told" (defScope s__law_told) (He.ga K "_law_told") cdv A outer s H E).nox) (c := .ref (He.ga K "FlagclauseError")) (i := 4) (Wout := fun _ _ _ _ => False)
      (tb := fun W D σ H => ∃ Ech : XK, (∀ cls d H', Ech cls d H' → W cls d σ H') ∧ tCL P w K mg base k 0 Ech σ H D.rt) (ts := ts) rfl rfl (by show List.Nodup (["_law_work", "_law_some", "_law_terms", "_law_k", "_law_e"] : List Str); decide) rfl rfl ⟨rfl, by decide, .inl T.g_FlagclauseError⟩ L2.takes0 (fun W pn xe tk _ => ?_) (fun a oe cls d pn hz hf => ?_)), ?_⟩
    · refine pss_one ⟨fun pins s' σ H' D I h' => ?_⟩
      obtain ⟨Ech, hW, h2⟩ := h'
      exact wpAny_Return_some (thn (run_calllam (j := k) hr (Nat.le_refl _) I (fun H1 s1 e s2 I1 c => tk e s2 (XE.of_call I1 (fun cls d H' h => hW cls d H' h) c)) rfl (.inl rfl) h2) fun v s1 ⟨x, H1, I1, r1, q1⟩ => ⟨x, σ, H1, I1, r1, q1⟩)
    · cases d with
      | none =>
        by_cases hc : cls = .ref (He.ga K "Unsatisfiable")
        · subst hc
          show PSs _ _ (if _ then _ else _)
          rw [if_pos rfl]
          exact (sU a).choose_spec.1 oe pn hz hf
        · show PSs _ _ (if _ then _ else _)
          rw [if_neg hc]
          exact pss_never
      | some dd =>
        by_cases hc : cls = .ref (He.ga K "Conflict")
        · subst hc
          show PSs _ _ (if _ then _ else _)
          rw [if_pos rfl]
          exact (sC a dd).choose_spec.1 oe pn hz hf
        · show PSs _ _ (if _ then _ else _)
          rw [if_neg hc]
          exact pss_never
    · refine ⟨toldE K Q, fun cls d H' hE => ?_, f, F, sp, rfl, hF, hrun, h⟩
      rcases hE with ⟨rfl, rfl, q⟩ | ⟨dd, vt, rfl, rfl, hdd, q⟩
      · refine ⟨true, T.e_Unsatisfiable, fun _ a ha => ?_, fun z => nomatch z⟩
        show (if _ then _ else _ : TS) _ _ _
        rw [if_pos rfl]
        exact (sU a).choose_spec.2 _ _ _ q
      · refine ⟨true, T.e_Conflict, fun _ a ha => ?_, fun z => nomatch z⟩
        show (if _ then _ else _ : TS) _ _ _
        rw [if_pos rfl]
        exact (sC a dd).choose_spec.2 _ _ _ vt hdd q
end
end K19

/-! ## K19Lj -/
set_option Elab.async false
set_option linter.all false
set_option maxRecDepth 100000
set_option maxHeartbeats 4000000
/-! data whose lists are new -/
namespace K19
open PySem PySem.Spec PyProof.Rows L2 Evl
mutual
def noL : PyData → Bool
  | .list _ => false
  | .tuple ds => noLs ds
  | .none => true
  | .bool _ => true
  | .int _ => true
  | .str _ => true
  | _ => false
def noLs : List PyData → Bool
  | [] => true
  | d :: ds => noL d && noLs ds
end
def frN (K : PySem.W.Frag) (H0 : Hp) : Nat → DR PyData
  | 0 => fun H v d => Dp K H v d ∧ noL d = true
  | n + 1 => fun H v d => (Dp K H v d ∧ noL d = true) ∨ ∃ ds, d = .list ds ∧ rNew H0 (frN K H0 n) H v ds
mutual
theorem dp_mono {K : PySem.W.Frag} {H H' : Hp} (e : Ex H H') : ∀ {v : V} {d : PyData}, Dp K H v d → Dp K H' v d
  | _, _, .non => .non
  | _, _, .bl b => .bl b
  | _, _, .int i => .int i
  | _, _, .str x => .str x
  | _, _, .lst h1 h2 => .lst (ex_l e h1) (dpa_mono e h2)
  | _, _, .tup h1 h2 => .tup (ex_t e h1) (dpa_mono e h2)
theorem dpa_mono {K : PySem.W.Frag} {H H' : Hp} (e : Ex H H') : ∀ {vs : List V} {ds : List PyData}, DpAll K H vs ds → DpAll K H' vs ds
  | _, _, .nil => .nil
  | _, _, .cons h1 h2 => .cons (dp_mono e h1) (dpa_mono e h2)
end
mutual
/-- a datum without lists bears the change of lists -/
theorem dp_s {K : PySem.W.Frag} {L : List Addr} {H H' : Hp} (l : LsS L H) (e : ExS L H H') : ∀ {v : V} {d : PyData}, Dp K H v d → noL d = true → Dp K H' v d
  | _, _, .non, _ => .non
  | _, _, .bl b, _ => .bl b
  | _, _, .int i, _ => .int i
  | _, _, .str x, _ => .str x
  | _, _, .lst h1 h2, n => by simp [noL] at n
  | _, _, .tup h1 h2, n => .tup (sqt_s l e h1) (dpa_s l e h2 (by simpa [noL] using n))
theorem dpa_s {K : PySem.W.Frag} {L : List Addr} {H H' : Hp} (l : LsS L H) (e : ExS L H H') : ∀ {vs : List V} {ds : List PyData}, DpAll K H vs ds → noLs ds = true → DpAll K H' vs ds
  | _, _, .nil, _ => .nil
  | _, _, .cons h1 h2, n => by
    simp only [noLs, Bool.and_eq_true] at n
    exact .cons (dp_s l e h1 n.1) (dpa_s l e h2 n.2)
end
theorem mFr {K : PySem.W.Frag} {H0 : Hp} : ∀ n : Nat, Mono (frN K H0 n)
  | 0 => fun _ _ _ _ e h => ⟨dp_mono e h.1, h.2⟩
  | n + 1 => fun _ _ _ _ e h => h.elim (fun h => .inl ⟨dp_mono e h.1, h.2⟩) fun ⟨ds, h1, h2⟩ => .inr ⟨ds, h1, mNew (mFr n) _ _ _ _ e h2⟩
/-- every datum is as deep as is wished -/
theorem fr_up {K : PySem.W.Frag} {H0 H : Hp} : ∀ (n : Nat) {v : V} {d : PyData}, frN K H0 n H v d → frN K H0 (n + 1) H v d
  | 0, _, _, h => .inl h
  | n + 1, _, _, h => h.elim .inl fun ⟨ds, h1, p, xs, h2, h3, h4, h5⟩ => .inr ⟨ds, h1, p, xs, h2, h3, h4, h5.imp fun v d h => fr_up n h⟩
/-- new since a later heap: new since the earlier one -/
theorem fr_back {K : PySem.W.Frag} {H0 H1 H : Hp} (e : Ex H0 H1) : ∀ (n : Nat) {v : V} {d : PyData}, frN K H1 n H v d → frN K H0 n H v d
  | 0, _, _, h => h
  | n + 1, _, _, h => h.elim .inl fun ⟨ds, h1, p, xs, h2, h3, h4, h5⟩ => .inr ⟨ds, h1, p, xs, h2, fresh_back e h3, h4, h5.imp fun v d h => fr_back e n h⟩
/-- what stood there before is in no list of it: it may change, if it is a list -/
theorem fr_upd {K : PySem.W.Frag} {H0 H : Hp} {D : Addr} {l ys : List V} (h0 : H0 D ≠ none) (hD : H D = some (.lst l)) : ∀ (n : Nat) {v : V} {d : PyData}, frN K H0 n H v d → frN K H0 n (upd H D (.lst ys)) v d := by
  have flat : ∀ {v : V} {d : PyData}, Dp K H v d → noL d = true → Dp K (upd H D (.lst ys)) v d := fun h n => dp_s (L := [D]) (fun x m => by simp at m; subst m; exact ⟨_, hD⟩) (ExS.upd (by simp)) h n
  intro n
  induction n with
  | zero => exact fun h => ⟨flat h.1 h.2, h.2⟩
  | succ n ih =>
    intro v d h
    rcases h with h | ⟨ds, h1, p, xs, h2, h3, h4, h5⟩
    · exact .inl ⟨flat h.1 h.2, h.2⟩
    · have ne : p ≠ D := fun z => h0 (z ▸ h3)
      exact .inr ⟨ds, h1, p, xs, h2, h3, by rw [upd_ne ne]; exact h4, h5.imp fun v d h => ih h⟩
end K19

/-! ## K19Lm -/
set_option Elab.async false
set_option linter.all false
set_option maxRecDepth 100000
set_option maxHeartbeats 4000000
/-! what every state knows; comprehensions of any length; tuples stay -/
namespace K19
open PySem PySem.Spec PyProof.Rows L2 Evl
/-- tracked things are not of the written part; no list, no tuple passes the line -/
def Know (K : PySem.W.Frag) (H : Hp) : Prop := (∀ a, H a ≠ none → K.lookup a = none) ∧ (∀ a xs, Rd H a (.lst xs) → xs.length ≤ sizeLine) ∧ ∀ a xs, Rd H a (.tup xs) → xs.length ≤ sizeLine
theorem inv_know {X : Cx} {pins : List (Addr × Obj)} {σ : L2.St} {H : Hp} {s : Shared} (I : Inv X pins σ H s) : Know X.K H := by
  refine ⟨fun a n => ?_, fun a xs r => (r.ok I.hok).1, fun a xs r => (r.ok I.hok).1⟩
  cases e : X.K.lookup a with
  | none => rfl
  | some o => exact absurd (I.bs a o (I.mod.kin a o e)).2 n
theorem pss_know {X : Cx} {st : List Stmt} {t : TS} (K : PySem.W.Frag) (h : PSs X st t) (hK : X.K = K := by rfl) : PSs X st (fun D σ H => Know K H → t D σ H) := by
  subst hK
  exact ⟨fun pins s σ H D I q => h.run pins s σ H D I (q (inv_know I))⟩
theorem ps_know {X : Cx} {st : Stmt} {t : TS} (K : PySem.W.Frag) (h : PS X st t) (hK : X.K = K := by rfl) : PS X st (fun D σ H => Know K H → t D σ H) := by
  subst hK
  exact ⟨fun pins s σ H D I q => h.run pins s σ H D I (q (inv_know I))⟩
theorem Know.sql {K : PySem.W.Frag} {H : Hp} (k : Know K H) {a : Addr} {xs : List V} (h : SqL K H a xs) : xs.length ≤ sizeLine := by
  rcases h with h | ⟨o, its, n, _, _, _, _, h5, h6⟩
  · exact k.2.1 a xs h
  · rw [h6.length, Array.length_toList]; exact h5
theorem Know.sqt {K : PySem.W.Frag} {H : Hp} (k : Know K H) {a : Addr} {xs : List V} (h : SqT K H a xs) : xs.length ≤ sizeLine := by
  rcases h with h | ⟨o, its, n, _, _, _, h5, h6⟩
  · exact k.2.2 a xs h
  · rw [h6.length, Array.length_toList]; exact h5
/-! ### comprehensions: any length; what the items are may lean on the list's own place -/
section
variable {α β : Type} {K : PySem.W.Frag} {σ : L2.St} {te : TE} {R : DR α}
theorem evn_itD {J : It} {n : Nat} {G : Hp → Prop} {Y : Nat → Hp → V → Hp → Prop} {H0 : Hp} {g : TG} {tt : TT} {vs : List Nat} (as : List α) (f : α → Bool) (gv : α → β) (S : Addr → DR β) (T : L2.St → Hp → α → Prop)
    (w : Walk J n G Y) (hn : as.length = n) (hz : n ≤ sizeLine) (hG : ∀ H1, Ex H0 H1 → G H1) (hY : ∀ i H1 x H2 a, as[i]? = some a → Ex H0 H1 → Y i H1 x H2 → Ex H1 H2 ∧ R H2 x a) (mS : ∀ D, Mono (S D)) (uS : ∀ D H l ys v b, H D = some (.lst l) → S D H v b → S D (upd H D (.lst ys)) v b)
    (hg : ∀ x a H1, a ∈ as → Ex H0 H1 → R H1 x a → ∀ Qs : L2.St → Hp → Prop, (∀ σ2 H2, Ex H1 H2 → wipe σ2 vs = wipe σ vs → T σ2 H2 a → Qs σ2 H2) → g x (wipe σ vs) H1 Qs)
    (ht : ∀ σ2 H2 a, a ∈ as → Ex H0 H2 → wipe σ2 vs = wipe σ vs → T σ2 H2 a → EvT tt σ2 H2 (f a))
    (he : ∀ σ2 H2 a D l, a ∈ as → Ex H0 H2 → H0 D = none → H2 D = some (.lst l) → wipe σ2 vs = wipe σ vs → T σ2 H2 a → f a = true → EvR te σ2 H2 (S D) (gv a))
    {Q : VK} (q : ∀ p H2 xs, H0 p = none → Ex H0 H2 → H2 p = some (.lst xs) → LR (S p) H2 xs ((as.filter f).map gv) → Q (.ref p) H2) :
    ∀ D, H0 D = none → ∃ W : Nat → Nat → Hp → Prop, (∃ m, W 0 m (upd H0 D (.lst []))) ∧ ∀ i m H, W i m H →
      (J.stop i H ∧ Q (.ref D) H) ∨ (J.go i H ∧ ∃ Nx : Hp → Prop, (∀ H', Nx H' → ∃ m', m' < m ∧ W (i + 1) m' H') ∧ ∀ x H', J.yld i H x H' → g x (wipe σ vs) H' fun σ2 H2 => wipe σ2 vs = wipe σ vs ∧ tt σ2 H2 fun b H3 =>
        if b = true then te σ2 H3 fun y H4 => ∃ acc, H4 D = some (.lst acc) ∧ acc.length < sizeLine ∧ Nx (upd H4 D (.lst (acc ++ [y]))) else Nx H3) := by
  intro D hD
  refine lc_it w (fun i H1 => Ex H0 H1 ∧ ∃ xs, H1 D = some (.lst xs) ∧ xs.length ≤ i ∧ LR (S D) H1 xs (((as.take i).filter f).map gv)) ⟨Ex.new hD, [], upd_same, Nat.zero_le _, by simp; exact .nil⟩ (fun i H1 _ h => hG H1 h.1) ?_ ?_
  · rintro i x H1 H2 hi ⟨e1, xs, hx, hl, hr⟩ hy
    obtain ⟨a, ha⟩ : ∃ a, as[i]? = some a := ⟨as[i]'(by omega), by simp [show i < as.length by omega]⟩
    have hm : a ∈ as := List.mem_of_getElem? ha
    obtain ⟨e2, r2⟩ := hY i H1 x H2 a ha e1 hy
    refine hg x a H2 hm (e1.trans e2) r2 _ fun σ2 H3 e3 hw hT => ⟨hw, ht σ2 H3 a hm ((e1.trans e2).trans e3) hw hT H3 (Ex.refl H3) _ fun H4 e4 => ?_⟩
    have e14 : Ex H1 H4 := (e2.trans e3).trans e4
    have tk : as.take (i + 1) = as.take i ++ [a] := by
      rw [List.take_succ, ha]; rfl
    cases hf : f a with
    | true =>
      show te σ2 H4 _
      refine he σ2 H3 a D xs hm ((e1.trans e2).trans e3) hD ((e2.trans e3) _ _ hx) hw hT hf H4 e4 _ fun y H5 e5 ry => ?_
      have e15 : Ex H1 H5 := e14.trans e5
      refine ⟨xs, e15 _ _ hx, Nat.lt_of_le_of_lt hl (Nat.lt_of_lt_of_le hi hz), Ex.mut (e1.trans e15) hD, xs ++ [y], upd_same, by simp; omega, ?_⟩
      rw [tk, List.filter_append, List.map_append]
      have e6 : ([a].filter f).map gv = [gv a] := by simp [hf]
      rw [e6]
      exact (((hr.mono (mS D) e15).imp fun v b h => uS D _ _ _ v b (e15 _ _ hx) h)).snoc (uS D _ _ _ _ _ (e15 _ _ hx) ry)
    | false =>
      show Ex H0 H4 ∧ _
      refine ⟨e1.trans e14, xs, e14 _ _ hx, Nat.le_succ_of_le hl, ?_⟩
      rw [tk, List.filter_append, List.map_append]
      have e6 : ([a].filter f).map gv = [] := by simp [hf]
      rw [e6, List.append_nil]
      exact hr.mono (mS D) e14
  · rintro H1 ⟨e1, xs, hx, _, hr⟩
    refine q D H1 xs hD e1 hx ?_
    rw [List.take_of_length_le (by omega)] at hr
    exact hr
/-- [e for x in xs], xs a list of any length -/
theorem evn_lcD {tl : TE} {j : Nat} {vs : List Nat} {as : List α} (gv : α → β) (S : Addr → DR β) {H H1 : Hp} (e : Ex H H1) {Q : VK} (h : EvR tl σ H (rLst K R) as) (hz : as.length ≤ sizeLine) (mR : Mono R) (mS : ∀ D, Mono (S D)) (uS : ∀ D H l ys v b, H D = some (.lst l) → S D H v b → S D (upd H D (.lst ys)) v b)
    (hw : ∀ x, wipe ((wipe σ vs).set j (some x)) vs = wipe σ vs)
    (he : ∀ x a H2 D l, a ∈ as → Ex H1 H2 → H1 D = none → H2 D = some (.lst l) → R H2 x a → EvR te ((wipe σ vs).set j (some x)) H2 (S D) (gv a))
    (q : ∀ p H2 xs, H1 p = none → Ex H1 H2 → H2 p = some (.lst xs) → LR (S p) H2 xs (as.map gv) → Q (.ref p) H2) : tLc (iList K tl) (gName j) tYes te vs σ H1 Q := by
  refine h H1 e _ fun v H2 e2 ⟨p, xs, hv, hs, hl⟩ => ⟨p, hv, ⟨xs, hs⟩, ?_⟩
  refine evn_itD (R := R) (g := gName j) (tt := tYes) (te := te) (σ := σ) (vs := vs) (H0 := H2) as (fun _ => true) gv S (fun σ2 H3 a => ∃ x, σ2 = (wipe σ vs).set j (some x) ∧ R H3 x a) (walk_list (K := K) (a := p) (xs := xs)) hl.length.symm (by rw [hl.length]; exact hz) (fun H3 e3 => ex_l e3 hs) (fun i H3 x H4 a ha e3 hy => ?_) mS uS (fun x a H3 ha e3 r Qs k => k _ _ (Ex.refl _) (hw x) ⟨x, rfl, r⟩)
    (fun σ2 H3 a ha e3 _ _ => et_yes) (fun σ2 H3 a D l ha e3 h0 hD _ ⟨x, h1, h2⟩ hf => by rw [h1]; exact he x a H3 D l ha (e2.trans e3) (fresh_back e2 h0) hD h2) (fun p' H3 xs' h1 h2 h3 h4 => q p' H3 xs' (fresh_back e2 h1) (e2.trans h2) h3 (by rw [filter_true] at h4; exact h4))
  obtain ⟨rfl, hx⟩ := hy
  obtain ⟨a', ha', ra⟩ := hl.getV hx
  rw [ha] at ha'
  cases ha'
  exact ⟨Ex.refl _, mR _ _ _ _ e3 ra⟩
/-- [e for i in range(n) if t]: no item is taken -/
theorem evn_lcR0 {tl : TA} {j n : Nat} {tt : TT} {vs : List Nat} {H H1 : Hp} (e : Ex H H1) {Q : VK} (h : EvA tl σ H [.int (n : Nat)]) (hz : n ≤ sizeLine) (hw : ∀ x, wipe ((wipe σ vs).set j (some x)) vs = wipe σ vs)
    (ht : ∀ i H2, i < n → Ex H H2 → EvT tt ((wipe σ vs).set j (some (.int (i : Nat)))) H2 false)
    (q : ∀ p H2, H1 p = none → Ex H1 H2 → H2 p = some (.lst []) → Q (.ref p) H2) : tLc (iRng1 tl) (gName j) tt te vs σ H1 Q := by
  have hz2 : sizeLine < 2 ^ 62 := by rw [sizeLine_eq]; decide
  refine h H1 e _ fun H2 e2 => ⟨(n : Int), rfl, by omega, by omega, ?_⟩
  rw [show ((n : Int)).toNat = n from rfl]
  refine evn_itD (R := fun _ v (i : Nat) => v = V.int (i : Nat)) (g := gName j) (tt := tt) (te := te) (σ := σ) (vs := vs) (H0 := H2) (List.range n) (fun _ => false) (fun _ => V.non) (fun _ => rV) (fun σ2 H3 i => σ2 = (wipe σ vs).set j (some (.int (i : Nat)))) (walk_range (lo := 0) (n := n)) (by simp) hz (fun _ _ => True.intro) (fun i H3 x H4 a ha e3 hy => ?_) (fun _ => mV) (fun D H l ys v b hD h => h) (fun x a H3 ha e3 hx Qs k => ?_)
    (fun σ2 H3 a ha e3 _ h1 => by rw [h1]; exact ht a H3 (List.mem_range.mp ha) ((e.trans e2).trans e3)) (fun σ2 H3 a D l ha e3 h0 hD _ h1 hf => by cases hf) (fun p' H3 xs' h1 h2 h3 h4 => q p' H3 (fresh_back e2 h1) (e2.trans h2) (by
      have z : ((List.range n).filter fun _ => false).map (fun _ => V.non) = [] := by simp
      rw [z] at h4
      cases h4
      exact h3))
  · obtain ⟨rfl, hx⟩ := hy
    have hi : a = i := by
      have := List.getElem?_eq_some_iff.mp ha
      obtain ⟨h1, h2⟩ := this
      simp at h2
      exact h2.symm
    subst hi
    exact ⟨Ex.refl _, by rw [hx]; show V.int (0 + (a : Int)) = _; rw [Int.zero_add]⟩
  · subst hx
    exact k _ _ (Ex.refl _) (hw _) rfl
end
/-! ### tuples stay -/
def ExT (H H' : Hp) : Prop := (∀ b xs, H b = some (.tup xs) → H' b = some (.tup xs)) ∧ ∀ b o xs, H b = some (.frz o (.tup xs)) → H' b = some (.frz o (.tup xs))
theorem ExT.of {H H' : Hp} (e : Ex H H') : ExT H H' := ⟨fun b xs h => e _ _ h, fun b o xs h => e _ _ h⟩
theorem ExT.trans {H H1 H2 : Hp} (a : ExT H H1) (b : ExT H1 H2) : ExT H H2 := ⟨fun c xs h => b.1 _ _ (a.1 _ _ h), fun c o xs h => b.2 _ _ _ (a.2 _ _ _ h)⟩
theorem sqt_x {K : PySem.W.Frag} {H H' : Hp} {p : Addr} {xs : List V} (e : ExT H H') (h : SqT K H p xs) : SqT K H' p xs := by
  rcases h with (h | ⟨o, h⟩) | h
  · exact .inl (.inl (e.1 _ _ h))
  · exact .inl (.inr ⟨o, e.2 _ _ _ h⟩)
  · exact .inr h
def TMono {α : Type} (R : DR α) : Prop := ∀ H H' v a, ExT H H' → R H v a → R H' v a
theorem xStr : TMono rStr := fun _ _ _ _ _ h => h
theorem xInt : TMono rInt := fun _ _ _ _ _ h => h
theorem xBl : TMono rBl := fun _ _ _ _ _ h => h
theorem xTpl {α : Type} {K : PySem.W.Frag} {R : DR α} (m : TMono R) : TMono (rTpl K R) := fun H H' v a e ⟨p, xs, h1, h2, h3⟩ => ⟨p, xs, h1, sqt_x e h2, h3.imp fun v a => m H H' v a e⟩
theorem xT2 {α β : Type} {K : PySem.W.Frag} {R : DR α} {S : DR β} (m : TMono R) (n : TMono S) : TMono (rT2 K R S) := fun H H' _ _ e ⟨p, x, y, h1, h2, h3, h4⟩ => ⟨p, x, y, h1, sqt_x e h2, m H H' _ _ e h3, n H H' _ _ e h4⟩
theorem xT3 {α β γ : Type} {K : PySem.W.Frag} {R : DR α} {S : DR β} {T : DR γ} (m : TMono R) (n : TMono S) (o : TMono T) : TMono (rT3 K R S T) := fun H H' _ _ e ⟨p, x, y, z, h1, h2, h3, h4, h5⟩ => ⟨p, x, y, z, h1, sqt_x e h2, m H H' _ _ e h3, n H H' _ _ e h4, o H H' _ _ e h5⟩
theorem xKd {K : PySem.W.Frag} : TMono (rKd K) := fun H H' v k e h => by
  cases k with
  | non => exact h
  | word => obtain ⟨p, h1, h2⟩ := h; exact ⟨p, h1, sqt_x e h2⟩
  | int lo hi => obtain ⟨p, h1, h2⟩ := h; exact ⟨p, h1, sqt_x e h2⟩
  | choice ws => obtain ⟨p, q, h1, h2, h3⟩ := h; exact ⟨p, q, h1, sqt_x e h2, xTpl xStr _ _ _ _ e h3⟩
theorem xLit {K : PySem.W.Frag} : TMono (rLit K) := xT2 xStr xBl
theorem xCl {K : PySem.W.Frag} : TMono (rCl K) := xT3 xStr xStr xStr
theorem xGram {K : PySem.W.Frag} : TMono (rGram K) := xT3 (xTpl (xT3 xStr xStr xKd)) (xT2 xInt xInt) (xTpl xCl)
mutual
theorem dp_x {K : PySem.W.Frag} {H H' : Hp} (e : ExT H H') : ∀ {v : V} {d : PyData}, Dp K H v d → noL d = true → Dp K H' v d
  | _, _, .non, _ => .non
  | _, _, .bl b, _ => .bl b
  | _, _, .int i, _ => .int i
  | _, _, .str x, _ => .str x
  | _, _, .lst h1 h2, n => by simp [noL] at n
  | _, _, .tup h1 h2, n => .tup (sqt_x e h1) (dpa_x e h2 (by simpa [noL] using n))
theorem dpa_x {K : PySem.W.Frag} {H H' : Hp} (e : ExT H H') : ∀ {vs : List V} {ds : List PyData}, DpAll K H vs ds → noLs ds = true → DpAll K H' vs ds
  | _, _, .nil, _ => .nil
  | _, _, .cons h1 h2, n => by
    simp only [noLs, Bool.and_eq_true] at n
    exact .cons (dp_x e h1 n.1) (dpa_x e h2 n.2)
end
/-! ### what never changes of itself stays: tuples, locked things, things known by what is true of them -/
def Fix : HO → Prop
  | .tup _ => True
  | .frz _ _ => True
  | .ext _ => True
  | _ => False
def ExF (H H' : Hp) : Prop := ∀ a o, Fix o → H a = some o → H' a = some o
theorem ExF.of {H H' : Hp} (e : Ex H H') : ExF H H' := fun a o _ h => e a o h
theorem ExF.trans {H H1 H2 : Hp} (a : ExF H H1) (b : ExF H1 H2) : ExF H H2 := fun x o f h => b x o f (a x o f h)
theorem ExF.t {H H' : Hp} (e : ExF H H') : ExT H H' := ⟨fun b xs h => e _ _ True.intro h, fun b o xs h => e _ _ True.intro h⟩
theorem ExF.n {H H' : Hp} (e : LamX.ExtN H H') : ExF H H' := fun a o f h => e a o h fun ps z => by subst z; exact f
end K19

/-! ## K19Lk -/
set_option Elab.async false
set_option linter.all false
set_option maxRecDepth 100000
set_option maxHeartbeats 4000000
namespace K19
open PySem PySem.Spec PyProof.Rows L2 Evl

theorem sc__law_copied : FnScope ["_law_told_here", "_law_one"] p__law_copied (defScope s__law_copied) := ⟨rfl, rfl, rfl, by decide +kernel, rfl, by decide +kernel, by decide +kernel⟩
theorem pe_false {X : Cx} {e : Expr} : PE X e (fun _ _ _ => False) := ⟨fun _ _ _ _ _ _ h => h.elim⟩
def spCopied (K : PySem.W.Frag) (n : Nat) : Sp := fun vs H Q _ => ∃ Hs v d, vs = [v] ∧ frN K Hs n H v d ∧ ∀ v' H', Ex H H' → frN K H n H' v' d → Q v' H'
def tyN : PyData → String
  | .none => "NoneType"
  | .bool _ => "bool"
  | .int _ => "int"
  | .str _ => "str"
  | .tuple _ => "tuple"
  | _ => "list"
theorem ty_flat {K : PySem.W.Frag} {H : Hp} {v : V} {d : PyData} (h : Dp K H v d) (n : noL d = true) : TyX K H v (.type (tyN d)) := by
  cases h with
  | non => exact .base .non
  | bl b => exact .base (.bl b)
  | int i => exact .base (.int i)
  | str x => exact .base (.str x)
  | lst h1 h2 => simp [noL] at n
  | tup h1 h2 => exact tyT h1
theorem kit_flat {d : PyData} (n : noL d = true) : kitB (tyN d) "list" = some false := by
  cases d with
  | none => exact (by decide +kernel : kitB "NoneType" "list" = some false)
  | bool b => exact (by decide +kernel : kitB "bool" "list" = some false)
  | int i => exact (by decide +kernel : kitB "int" "list" = some false)
  | str x => exact (by decide +kernel : kitB "str" "list" = some false)
  | tuple ds => exact (by decide +kernel : kitB "tuple" "list" = some false)
  | _ => simp [noL] at n
section
variable {P : Program} {w : World} {K : PySem.W.Frag} {mg : Str → Option Value} {base : Heap}
theorem ok__law_copied (T : Txt K mg) : ∀ n, Cal P w K mg base CX0 (n + 1) "_law_copied" (spCopied K n)
  | 0 => by
    refine cal0 (N := ["_law_told_here", "_law_one"]) T.D__law_copied T.g__law_copied sc__law_copied (fun vs H Q E h => ?_) fun cdv A outer s H vs Q E hr h => ?_
    · obtain ⟨_, _, _, rfl, _⟩ := h; rfl
    · obtain ⟨Hs, v, d, rfl, hf, k⟩ := h
      refine ⟨_, (pss_one (ps_ret (pe_ifExp (pt_val (pe_isiK K T.f_isinstance T.f_list bt_list (pv 0))) pe_false (pv 0)))), ?_⟩
      exact ⟨_, rfl, _, _, _, _, rfl, ty_flat hf.1 hf.2, kit_flat hf.2, false, rfl, iteF ⟨_, rfl, k v H (Ex.refl _) hf⟩⟩
  | n + 1 => by
    have ih := ok__law_copied T n
    refine cal0 (N := ["_law_told_here", "_law_one"]) T.D__law_copied T.g__law_copied sc__law_copied (fun vs H Q E h => ?_) fun cdv A outer s H vs Q E hr h => ?_
    · obtain ⟨_, _, _, rfl, _⟩ := h; rfl
    · obtain ⟨Hs, v, d, rfl, hf, k⟩ := h
      refine ⟨_, pss_know K (pss_one (ps_ret (pe_ifExp (pt_val (pe_isiK K T.f_isinstance T.f_list bt_list (pv 0))) (pe_lc (own := [("_law_one", 1)]) (g := gName 1) (tt := tYes) rfl sc__law_copied.nd (pi_list (pv 0)) (blkOk_by (N := ["_law_told_here", "_law_one"]) (sc := defScope s__law_copied) (by decide +kernel)) (fun _ _ _ _ _ => (pg_name (i := 1) sc__law_copied.nd rfl (Or.inl rfl))) (fun _ _ _ _ _ => pts_nil) (fun _ _ _ _ _ => (pe_c ih hr (Nat.le_refl _) rfl pass0 (pa_cons (pv 1) pa_nil)))) (pv 0)))), fun kn => ?_⟩
      rcases hf with hf | ⟨ds, rfl, p, xs, rfl, h0, hp, hl⟩
      · exact ⟨_, rfl, _, _, _, _, rfl, ty_flat hf.1 hf.2, kit_flat hf.2, false, rfl, iteF ⟨_, rfl, k v H (Ex.refl _) (.inl hf)⟩⟩
      · refine ⟨_, rfl, _, _, _, _, rfl, .base (.lst hp), (by decide +kernel : kitB "list" "list" = some true), true, rfl, iteT ?_⟩
        refine evn_lcD (R := frN K Hs n) (as := ds) (fun d => d) (fun D => At D (frN K H n)) (Ex.refl H) (evr_var (mLst (mFr n)) rfl ⟨p, xs, rfl, sq_of hp, hl⟩) (by rw [← hl.length]; exact kn.2.1 _ _ (.inl hp)) (mFr n) (fun D => mAt (mFr n)) (fun D H l ys v b _ h => h.upd) (fun _ => rfl) (fun x d H1 D l hd e1 hD0 hD hx H2 e2 Q q => ?_) fun p' H1 ys hp' e1 h1 hl1 => ?_
        · refine ⟨_, rfl, Hs, x, d, rfl, mFr n _ _ _ _ e2 hx, fun v' H3 e3 h3 => q v' H3 e3 ⟨fr_back (e1.trans e2) n h3, fun ys => fr_back (e1.trans e2) n (fr_upd (by rw [e2 _ _ hD]; simp) (e3 _ _ (e2 _ _ hD)) n h3)⟩⟩
        · rw [List.map_id'] at hl1
          exact k _ H1 e1 (.inr ⟨ds, rfl, p', ys, rfl, hp', h1, hl1.imp fun v a h => h.1⟩)
end
end K19

/-! ## K19Ll -/
set_option Elab.async false
set_option linter.all false
set_option maxRecDepth 100000
set_option maxHeartbeats 4000000
namespace K19
open PySem PySem.Spec PyProof.Rows L2 Evl
theorem ixS {X : Cx} (K : PySem.W.Frag) (hK : X.K = K := by rfl) : IxR X (fun o i H Q => rIxL K o i H Q ∨ rIxT K o i H Q) := by
  subst hK
  intro value slice pins s σ H x y v u Q I rx ry h hs
  rcases h with h | h
  · exact ix_list value slice pins s σ H x y v u Q I rx ry h hs
  · exact ix_tup value slice pins s σ H x y v u Q I rx ry h hs

theorem sc__law_like : FnScope ["_law_found", "_law_due", "_law_k"] p__law_like (defScope s__law_like) := ⟨rfl, rfl, rfl, by decide +kernel, rfl, by decide +kernel, by decide +kernel⟩
/-- a datum, levels counted -/
def atomV : V → PyData → Prop
  | .non, .none => True
  | .bl b, .bool c => b = c
  | .int i, .int j => i = j
  | .str x, .str y => x = y
  | _, _ => False
def dpN (K : PySem.W.Frag) : Nat → DR PyData
  | 0 => fun _ v d => atomV v d
  | n + 1 => fun H v d => atomV v d ∨ (∃ ds p xs, d = .list ds ∧ v = .ref p ∧ SqL K H p xs ∧ LR (dpN K n) H xs ds) ∨ ∃ ds p xs, d = .tuple ds ∧ v = .ref p ∧ SqT K H p xs ∧ LR (dpN K n) H xs ds
theorem mDpN {K : PySem.W.Frag} : ∀ n, Mono (dpN K n)
  | 0 => fun _ _ _ _ _ h => h
  | n + 1 => fun _ _ _ _ e h => by
    rcases h with h | ⟨ds, p, xs, h1, h2, h3, h4⟩ | ⟨ds, p, xs, h1, h2, h3, h4⟩
    · exact .inl h
    · exact .inr (.inl ⟨ds, p, xs, h1, h2, ex_l e h3, h4.mono (mDpN n) e⟩)
    · exact .inr (.inr ⟨ds, p, xs, h1, h2, ex_t e h3, h4.mono (mDpN n) e⟩)
theorem tyL {K : PySem.W.Frag} {H : Hp} {p : Addr} {xs : List V} (h : SqL K H p xs) : TyX K H (.ref p) (.type "list") := by
  rcases h with (h | ⟨o, h⟩) | ⟨o, its, n, h1, h2, _⟩
  · exact .base (.lst h)
  · exact .base (.frz h)
  · exact .kList h1 h2
def tyV : V → String
  | .bl _ => "bool"
  | .int _ => "int"
  | .str _ => "str"
  | _ => "NoneType"
theorem atom_ty {K : PySem.W.Frag} {H : Hp} {v : V} {d : PyData} (h : atomV v d) : TyX K H v (.type (tyV v)) := by
  cases v with
  | non => exact .base .non
  | bl b => exact .base (.bl b)
  | int i => exact .base (.int i)
  | str x => exact .base (.str x)
  | _ => cases d <;> exact h.elim
theorem atom_kit {v : V} {d : PyData} (h : atomV v d) : kitB (tyV v) "tuple" = some false ∧ kitB (tyV v) "list" = some false ∧ (∃ b, kitB (tyV v) "bool" = some b) ∧ (∃ b, kitB (tyV v) "int" = some b) ∧ ∃ b, kitB (tyV v) "str" = some b := by
  cases v with
  | non => exact ⟨by decide +kernel, by decide +kernel, ⟨false, by decide +kernel⟩, ⟨false, by decide +kernel⟩, ⟨false, by decide +kernel⟩⟩
  | bl b => exact ⟨by show kitB "bool" "tuple" = _; decide +kernel, by show kitB "bool" "list" = _; decide +kernel, ⟨true, by show kitB "bool" "bool" = _; decide +kernel⟩, ⟨true, by show kitB "bool" "int" = _; decide +kernel⟩, ⟨false, by show kitB "bool" "str" = _; decide +kernel⟩⟩
  | int i => exact ⟨by show kitB "int" "tuple" = _; decide +kernel, by show kitB "int" "list" = _; decide +kernel, ⟨false, by show kitB "int" "bool" = _; decide +kernel⟩, ⟨true, by show kitB "int" "int" = _; decide +kernel⟩, ⟨false, by show kitB "int" "str" = _; decide +kernel⟩⟩
  | str x => exact ⟨by show kitB "str" "tuple" = _; decide +kernel, by show kitB "str" "list" = _; decide +kernel, ⟨false, by show kitB "str" "bool" = _; decide +kernel⟩, ⟨false, by show kitB "str" "int" = _; decide +kernel⟩, ⟨true, by show kitB "str" "str" = _; decide +kernel⟩⟩
  | _ => cases d <;> exact h.elim
theorem atom_eq {v u : V} {d : PyData} (h : atomV v d) (h2 : atomV u d) : v = u := by
  cases d <;> cases v <;> first | exact h.elim | (cases u <;> first | exact h2.elim | rfl | (have a := h; have b := h2; simp only [atomV] at a b; rw [a, b]))
theorem atom_scal {v : V} {d : PyData} (h : atomV v d) : scal v v = true := by
  cases v <;> first | rfl | (cases d <;> exact h.elim)
def spLike (K : PySem.W.Frag) (n : Nat) : Sp := fun vs H Q _ => ∃ v u d, vs = [v, u] ∧ dpN K n H v d ∧ dpN K n H u d ∧ ∀ H', Ex H H' → Q (.bl true) H'
theorem ne_len {a b : Nat} (h : a = b) : (!decide (V.int (a : Int) = V.int (b : Int))) = false := by rw [h]; simp
theorem ne_same (b : Bool) : (!decide (V.bl b = V.bl b)) = false := by simp
section
variable {P : Program} {w : World} {K : PySem.W.Frag} {mg : Str → Option Value} {base : Heap}
theorem ok__law_like (T : Txt K mg) : ∀ n, Cal P w K mg base CX0 (n + 1) "_law_like" (spLike K n)
  | 0 => by
    refine cal0 (N := ["_law_found", "_law_due", "_law_k"]) T.D__law_like T.g__law_like sc__law_like (fun vs H Q E h => ?_) fun cdv A outer s H vs Q E hr h => ?_
    · obtain ⟨_, _, _, rfl, _⟩ := h; rfl
    · obtain ⟨v, u, d, rfl, hv, hu, k⟩ := h
      refine ⟨_, (pss_cons (ps_if (PW.pt (pw_or (pt_val (pe_isiK K T.f_isinstance T.f_tuple bt_tuple (pv 1))) (pw_or1 (pt_val (pe_isiK K T.f_isinstance T.f_list bt_list (pv 1)))))) pss_never pss_nil)
      (pss_cons (ps_if (pt_cmpR op_ne (pe_isiK K T.f_isinstance T.f_bool bt_bool (pv 0)) (pe_isiK K T.f_isinstance T.f_bool bt_bool (pv 1)) (nomark _)) (pss_one (ps_ret pe_bl)) pss_nil)
      (pss_cons (ps_if (PW.pt (pw_or (pt_cmpR op_ne (pe_isiK K T.f_isinstance T.f_int bt_int (pv 0)) (pe_isiK K T.f_isinstance T.f_int bt_int (pv 1)) (nomark _)) (pw_or1 (pt_cmpR op_ne (pe_isiK K T.f_isinstance T.f_str bt_str (pv 0)) (pe_isiK K T.f_isinstance T.f_str bt_str (pv 1)) (nomark _))))) (pss_one (ps_ret pe_bl)) pss_nil)
      (pss_one (ps_ret (pe_cmpR op_eq (pv 0) (pv 1) (nomark _))))))), ?_⟩
      have ka := atom_kit hv
      obtain ⟨kt, kl, ⟨b1, k1⟩, ⟨b2, k2⟩, ⟨b3, k3⟩⟩ := ka
      have eq := atom_eq hv hu
      subst eq
      have ty := atom_ty (K := K) (H := H) hv
      refine ⟨_, rfl, _, _, _, _, rfl, ty, kt, false, rfl, iteF ?_⟩
      refine ⟨_, rfl, _, _, _, _, rfl, ty, kl, false, rfl, iteF ?_⟩
      refine ⟨_, rfl, _, _, _, _, rfl, ty, k1, _, rfl, _, _, _, _, rfl, ty, k1, rfl, _, congrArg V.bl (ne_same b1), iteF ?_⟩
      refine ⟨_, rfl, _, _, _, _, rfl, ty, k2, _, rfl, _, _, _, _, rfl, ty, k2, rfl, _, congrArg V.bl (ne_same b2), iteF ?_⟩
      refine ⟨_, rfl, _, _, _, _, rfl, ty, k3, _, rfl, _, _, _, _, rfl, ty, k3, rfl, _, congrArg V.bl (ne_same b3), iteF ?_⟩
      refine ⟨_, rfl, _, rfl, atom_scal hv, ?_⟩
      rw [decide_eq_true rfl]
      exact k H (Ex.refl H)
  | n + 1 => by
    have ih := ok__law_like T n
    refine cal0 (N := ["_law_found", "_law_due", "_law_k"]) T.D__law_like T.g__law_like sc__law_like (fun vs H Q E h => ?_) fun cdv A outer s H vs Q E hr h => ?_
    · obtain ⟨_, _, _, rfl, _⟩ := h; rfl
    · obtain ⟨v, u, d, rfl, hv, hu, k⟩ := h
      refine ⟨_, pss_know K (pss_cons (ps_if (PW.pt (pw_or (pt_val (pe_isiK K T.f_isinstance T.f_tuple bt_tuple (pv 1))) (pw_or1 (pt_val (pe_isiK K T.f_isinstance T.f_list bt_list (pv 1)))))) (pss_cons (ps_if (pt_cmpR op_ne (pe_isiK K T.f_isinstance T.f_tuple bt_tuple (pv 0)) (pe_isiK K T.f_isinstance T.f_tuple bt_tuple (pv 1)) (nomark _)) (pss_one (ps_ret pe_bl)) pss_nil)
      (pss_cons (ps_if (PW.pt (pw_or (pt_cmpR op_ne (pe_isiK K T.f_isinstance T.f_list bt_list (pv 0)) (pe_isiK K T.f_isinstance T.f_list bt_list (pv 1)) (nomark _)) (pw_or1 (pt_cmpR op_ne (pe_callB (lenSq K) rfl T.f_len bt_len (pa_cons (pv 0) pa_nil)) (pe_callB (lenSq K) rfl T.f_len bt_len (pa_cons (pv 1) pa_nil)) (nomark _))))) (pss_one (ps_ret pe_bl)) pss_nil)
      (pss_one (ps_ret (pe_cmpR (op_eqNil K hr.units) (pe_lc (own := [("_law_k", 2)]) (g := gName 2) rfl sc__law_like.nd (pi_range1 rfl T.f_range (pa_cons (pe_callB (lenSq K) rfl T.f_len bt_len (pa_cons (pv 1) pa_nil)) pa_nil)) (blkOk_by (N := ["_law_found", "_law_due", "_law_k"]) (sc := defScope s__law_like) (by decide +kernel)) (fun _ _ _ _ _ => (pg_name (i := 2) sc__law_like.nd rfl (Or.inl rfl))) (fun _ _ _ _ _ => (pts_one (pt_not (pt_val (pe_c ih hr (Nat.le_refl _) rfl pass0 (pa_cons (pe_ix (ixS K) (pv 0) (pv 2) (fun _ _ => rfl)) (pa_cons (pe_ix (ixS K) (pv 1) (pv 2) (fun _ _ => rfl)) pa_nil))))))) (fun _ _ _ _ _ => (pv 2))) (pe_lst pa_nil) (nomark _)))))) pss_nil)
      (pss_cons (ps_if (pt_cmpR op_ne (pe_isiK K T.f_isinstance T.f_bool bt_bool (pv 0)) (pe_isiK K T.f_isinstance T.f_bool bt_bool (pv 1)) (nomark _)) (pss_one (ps_ret pe_bl)) pss_nil)
      (pss_cons (ps_if (PW.pt (pw_or (pt_cmpR op_ne (pe_isiK K T.f_isinstance T.f_int bt_int (pv 0)) (pe_isiK K T.f_isinstance T.f_int bt_int (pv 1)) (nomark _)) (pw_or1 (pt_cmpR op_ne (pe_isiK K T.f_isinstance T.f_str bt_str (pv 0)) (pe_isiK K T.f_isinstance T.f_str bt_str (pv 1)) (nomark _))))) (pss_one (ps_ret pe_bl)) pss_nil)
      (pss_one (ps_ret (pe_cmpR op_eq (pv 0) (pv 1) (nomark _))))))), fun kn => ?_⟩
      have atomic : ∀ {ds : List PyData}, ¬ atomV v (.list ds) ∧ ¬ atomV v (.tuple ds) := fun {ds} => ⟨fun z => by cases v <;> exact z, fun z => by cases v <;> exact z⟩
      have atomic2 : ∀ {ds : List PyData}, ¬ atomV u (.list ds) ∧ ¬ atomV u (.tuple ds) := fun {ds} => ⟨fun z => by cases u <;> exact z, fun z => by cases u <;> exact z⟩
      rcases hv with hv | ⟨ds, p, xs, rfl, rfl, hp, hl⟩ | ⟨ds, p, xs, rfl, rfl, hp, hl⟩
      · rcases hu with hu | ⟨ds, q, ys, rfl, rfl, hq, hm⟩ | ⟨ds, q, ys, rfl, rfl, hq, hm⟩
        · have ka := atom_kit hv
          obtain ⟨kt, kl, ⟨b1, k1⟩, ⟨b2, k2⟩, ⟨b3, k3⟩⟩ := ka
          have eq := atom_eq hv hu
          subst eq
          have ty := atom_ty (K := K) (H := H) hv
          refine ⟨_, rfl, _, _, _, _, rfl, ty, kt, false, rfl, iteF ?_⟩
          refine ⟨_, rfl, _, _, _, _, rfl, ty, kl, false, rfl, iteF ?_⟩
          refine ⟨_, rfl, _, _, _, _, rfl, ty, k1, _, rfl, _, _, _, _, rfl, ty, k1, rfl, _, congrArg V.bl (ne_same b1), iteF ?_⟩
          refine ⟨_, rfl, _, _, _, _, rfl, ty, k2, _, rfl, _, _, _, _, rfl, ty, k2, rfl, _, congrArg V.bl (ne_same b2), iteF ?_⟩
          refine ⟨_, rfl, _, _, _, _, rfl, ty, k3, _, rfl, _, _, _, _, rfl, ty, k3, rfl, _, congrArg V.bl (ne_same b3), iteF ?_⟩
          refine ⟨_, rfl, _, rfl, atom_scal hv, ?_⟩
          rw [decide_eq_true rfl]
          exact k H (Ex.refl H)
        · exact absurd hv atomic.1
        · exact absurd hv atomic.2
      · rcases hu with hu | ⟨ds', q, ys, e, rfl, hq, hm⟩ | ⟨ds', q, ys, e, rfl, hq, hm⟩
        · exact absurd hu atomic2.1
        · cases e
          have k0 : kitB "list" "tuple" = some false := by decide +kernel
          have k1 : kitB "list" "list" = some true := by decide +kernel
          refine ⟨_, rfl, _, _, _, _, rfl, tyL hq, k0, false, rfl, iteF ?_⟩
          refine ⟨_, rfl, _, _, _, _, rfl, tyL hq, k1, true, rfl, iteT ?_⟩
          refine ⟨_, rfl, _, _, _, _, rfl, tyL hp, k0, _, rfl, _, _, _, _, rfl, tyL hq, k0, rfl, _, congrArg V.bl (ne_same false), iteF ?_⟩
          refine ⟨_, rfl, _, _, _, _, rfl, tyL hp, k1, _, rfl, _, _, _, _, rfl, tyL hq, k1, rfl, _, congrArg V.bl (ne_same true), iteF ?_⟩
          refine ⟨_, rfl, _, _, rfl, .inl hp, _, rfl, _, _, rfl, .inl hq, rfl, _, congrArg V.bl (ne_len (hl.length.trans hm.length.symm)), iteF ?_⟩
          dsimp only [tNext, tRet, tOp]
          refine evn_lcR0 (n := ys.length) (H := H) (Ex.refl H) (fun H1 e Q q => ⟨_, rfl, _, _, rfl, .inl (ex_l e hq), q H1 (Ex.refl H1)⟩) (kn.sql hq) (fun _ => rfl) (fun i H1 hi e1 H2 e2 Q k2 => ?_) fun r H1 hr0 e1 hr1 => ?_
          · obtain ⟨d, hd⟩ : ∃ d, ds[i]? = some d := ⟨ds[i]'(by rw [← hm.length]; exact hi), by simp [show i < ds.length by rw [← hm.length]; exact hi]⟩
            obtain ⟨x, hx, rx⟩ := hl.get hd
            obtain ⟨y, hy, ry⟩ := hm.get hd
            have e := e1.trans e2
            exact ⟨_, rfl, _, rfl, .inl ⟨p, xs, _, x, rfl, rfl, ex_l e hp, atI_nat hx, _, rfl, _, rfl, .inl ⟨q, ys, _, y, rfl, rfl, ex_l e hq, atI_nat hy, x, y, d, rfl, mDpN n _ _ _ _ e rx, mDpN n _ _ _ _ e ry, fun H3 e3 => ⟨true, rfl, k2 H3 e3⟩⟩⟩⟩
          · refine ⟨Nat.zero_le _, fun r2 hr2 => ⟨r, r2, [], rfl, rfl, sq_of ((Ex.new hr2) _ _ hr1), sq_of upd_same, ?_⟩⟩
            rw [decide_eq_true rfl]
            exact k _ (e1.trans (Ex.new hr2))
        · cases e
      · rcases hu with hu | ⟨ds', q, ys, e, rfl, hq, hm⟩ | ⟨ds', q, ys, e, rfl, hq, hm⟩
        · exact absurd hu atomic2.2
        · cases e
        · cases e
          have k0 : kitB "tuple" "tuple" = some true := by decide +kernel
          have k1 : kitB "tuple" "list" = some false := by decide +kernel
          refine ⟨_, rfl, _, _, _, _, rfl, tyT hq, k0, true, rfl, iteT (iteT ?_)⟩
          refine ⟨_, rfl, _, _, _, _, rfl, tyT hp, k0, _, rfl, _, _, _, _, rfl, tyT hq, k0, rfl, _, congrArg V.bl (ne_same true), iteF ?_⟩
          refine ⟨_, rfl, _, _, _, _, rfl, tyT hp, k1, _, rfl, _, _, _, _, rfl, tyT hq, k1, rfl, _, congrArg V.bl (ne_same false), iteF ?_⟩
          refine ⟨_, rfl, _, _, rfl, .inr hp, _, rfl, _, _, rfl, .inr hq, rfl, _, congrArg V.bl (ne_len (hl.length.trans hm.length.symm)), iteF ?_⟩
          dsimp only [tNext, tRet, tOp]
          refine evn_lcR0 (n := ys.length) (H := H) (Ex.refl H) (fun H1 e Q q => ⟨_, rfl, _, _, rfl, .inr (ex_t e hq), q H1 (Ex.refl H1)⟩) (kn.sqt hq) (fun _ => rfl) (fun i H1 hi e1 H2 e2 Q k2 => ?_) fun r H1 hr0 e1 hr1 => ?_
          · obtain ⟨d, hd⟩ : ∃ d, ds[i]? = some d := ⟨ds[i]'(by rw [← hm.length]; exact hi), by simp [show i < ds.length by rw [← hm.length]; exact hi]⟩
            obtain ⟨x, hx, rx⟩ := hl.get hd
            obtain ⟨y, hy, ry⟩ := hm.get hd
            have e := e1.trans e2
            exact ⟨_, rfl, _, rfl, .inr ⟨p, xs, _, x, rfl, rfl, ex_t e hp, atI_nat hx, _, rfl, _, rfl, .inr ⟨q, ys, _, y, rfl, rfl, ex_t e hq, atI_nat hy, x, y, d, rfl, mDpN n _ _ _ _ e rx, mDpN n _ _ _ _ e ry, fun H3 e3 => ⟨true, rfl, k2 H3 e3⟩⟩⟩⟩
          · refine ⟨Nat.zero_le _, fun r2 hr2 => ⟨r, r2, [], rfl, rfl, sq_of ((Ex.new hr2) _ _ hr1), sq_of upd_same, ?_⟩⟩
            rw [decide_eq_true rfl]
            exact k _ (e1.trans (Ex.new hr2))
end
end K19

/-! ## K19Ln -/
set_option Elab.async false
set_option linter.all false
set_option maxRecDepth 100000
set_option maxHeartbeats 4000000
/-! a def whose cells live on: its body ends by return e, and the cells are tracked from then on -/
namespace K19
open PySem PySem.Spec PyProof.Rows L2 Evl LamX NdefX
/-- a body that ends by return e: what is wanted of the slots, too -/
structure PSR (X : Cx) (st : List Stmt) (t : (L2.St → VK) → L2.St → Hp → Prop) : Prop where
  run : ∀ (pins : List (Addr × Obj)) (s : Shared) (σ : L2.St) (H : Hp) (R : L2.St → VK), Inv X pins σ H s → t R σ H →
    wpAny (model X.prog X.w) X.A (execs st X.env) (fun f s' => ∃ u v σ' H', f = .ret u ∧ Inv X pins σ' H' s' ∧ RelV v u ∧ R σ' v H') X.xe s
section
variable {X : Cx} {st : Stmt} {rest : List Stmt} {e : Expr} {te : TE} {t : TS} {u : (L2.St → VK) → L2.St → Hp → Prop} {pos : Pos}
theorem psr_ret (he : PE X e te) : PSR X [.Return (some e) pos] (fun R σ H => te σ H (R σ)) := by
  refine ⟨fun pins s σ H R I h => ?_⟩
  exact wpAny_execs_cons (wpAny_Return_some (thn (he.run pins s σ H _ I h) fun u s1 ⟨v, H1, I1, r1, q1⟩ => ⟨u, v, σ, H1, rfl, I1, r1, q1⟩))
theorem psr_cons (h1 : PS X st t) (h2 : PSR X rest u) : PSR X (st :: rest) (fun R σ H => t { nx := u R, rt := fun _ _ => False } σ H) := by
  refine ⟨fun pins s σ H R I h => ?_⟩
  refine wpAny_execs_cons (thn (h1.run pins s σ H _ I h) fun f s1 q => ?_)
  cases f with
  | next =>
    obtain ⟨σ', H', I', q⟩ := q
    exact h2.run pins s1 σ' H' R I' q
  | ret v =>
    obtain ⟨_, _, _, _, _, z⟩ := q
    exact z.elim
  | brk =>
    obtain ⟨_, _, _, z⟩ := q
    exact z.elim
  | cont =>
    obtain ⟨_, _, _, z⟩ := q
    exact z.elim
end
section
variable {P : Program} {w : World} {K : PySem.W.Frag} {mg : Str → Option Value} {base : Heap}
/-- cs: cells of the def around, told by its slots -/
def CsOf (sc : Scope) (cells : List (Str × Addr)) (N : List Str) (σ : L2.St) (cs : List (Addr × V)) : Prop :=
  ∀ a v, cs.lookup a = some v → ∃ (y : Str) (i : Nat), sc.names.lookup y = some .cell ∧ cells.lookup y = some a ∧ N[i]? = some y ∧ σ[i]? = some (some v)
/-- what the code object and its table are -/
theorem code_of {p : He.Defn} {x qual : Str} {st : Stmt} {fd : FuncData} (F : FunD K x qual (defArgs st) (defBody st) (defScope st) [] [] (He.fAd K p) fd) : ∃ (oc : Value) (od : Option Addr) (dV kV doc pm : Value) (an : Option Addr) (ct : Value) (osl : Array (Option Value)),
    fd = PySem.W.fnOf x qual (defArgs st) (defBody st) (defScope st) dV kV doc pm an (.ref (He.cT K p).1) ct ∧ K.lookup (He.fAd K p) = some ⟨oc, od, .func fd, osl⟩ ∧ PySem.W.codeIn K (.ref (He.cT K p).1) qual = true := by
  obtain ⟨oc, od, dV, kV, doc, pm, an, cdv, ct, osl, e, lk, hcd, _, _⟩ := F.ex
  obtain ⟨c, rfl⟩ := He.codeIn_ref hcd
  have q : He.codeOf K p = c := He.codeOf_eq lk (by rw [e])
  have q2 : (He.cT K p).1 = c := q
  exact ⟨oc, od, dV, kV, doc, pm, an, ct, osl, by rw [q2]; exact e, lk, by rw [q2]; exact hcd⟩
theorem fnR {p : He.Defn} {x qual : Str} {st : Stmt} {fd : FuncData} {N ps : List Str} {k : Nat} {sp : Sp} (F : FunD K x qual (defArgs st) (defBody st) (defScope st) [] [] (He.fAd K p) fd) (S : FnScope N ps (defScope st)) (len : ∀ vs H Q E, sp vs H Q E → vs.length = ps.length)
    (hbody : ∀ (A : Around) (outer : List Env) (s : Shared) (H : Hp) (vs : List V) (Q : VK) (E : XK), Room k (A.deeper (envOfC qual (defScope st) s.heap.objs.size (He.fAd K p) (.ref (He.cT K p).1))) → sp vs H Q E →
      ∃ t, PSR (cxOf CX0 P w K mg base N qual (defScope st) (He.fAd K p) (.ref (He.cT K p).1) A outer s H E).nox (defBody st) t ∧
        t (fun σ v H' => ∃ cs, CsOf (defScope st) (cellsFrom (s.heap.objs.size + 1) (defScope st).names []) N σ cs ∧ (NoC H' cs → Q v (putC H' cs))) (start N vs) H) : FnOk P w K mg base CX0 (k + 1) (He.fAd K p) fd ps sp := by
  obtain ⟨oc, od, dV, kV, doc, pm, an, ct, osl, rfl, lk, hcd⟩ := code_of F
  refine ⟨len, fun A outer s H args us vs Q E hr e0 hb r hsp => ?_⟩
  have hl := len _ _ _ _ hsp
  have KX : K.In s.heap := e0.mod.kin.keeps fun b o e => (e0.bs b o e).1
  have lim : s.heap.NoLimit := e0.mod.nolimit.keeps fun b o e => (e0.bs b o e).1
  have hkind : ∀ y ∈ ps.zip us, (defScope st).names.lookup y.1 = some .local ∨ ((defScope st).names.lookup y.1 = some .cell ∧ ((cellsFrom (s.heap.objs.size + 1) (defScope st).names []).lookup y.1).isSome = true) := fun ⟨n, v⟩ hy => by
    rcases S.par n (List.of_mem_zip hy).1 with q | q
    · exact .inl q
    · exact .inr ⟨q, PySem.W.cellsFrom_some _ _ _ (.inl q)⟩
  refine codeAny_call_function hr.depth (KX _ _ lk) rfl S.co S.gen rfl (PySem.W.codeRec_of KX hcd) (hb _ _ _ _ ?_)
  refine wpAny_newFunctionEnv_cells S.kind hkind fun env he s1 x => ?_
  subst he
  refine ⟨lim.keeps x.toInCall.keep, codeAny_func ?_⟩
  obtain ⟨t, ht, hq⟩ := hbody A outer s H vs Q E (hr.deeper _) hsp
  have I : Inv (cxOf CX0 P w K mg base N qual (defScope st) (He.fAd K p) (.ref (He.cT K p).1) A outer s H E) [] (start N vs) H s1 := inv_start S hr.hd e0 hl r x
  refine wpAny_mono (ht.run [] s1 (start N vs) H _ (I.wish _) hq) (fun fl s' hs => ?_) fun e s' hs => hs.elim
  obtain ⟨u, v, σ', H', rfl, J, rv, cs, hc, q⟩ := hs
  have nc : NoC H' cs := fun a v e => by
    obtain ⟨y, i, _, h1, _⟩ := hc a v e
    exact J.freeC y a h1
  have below : ∀ a v, cs.lookup a = some v → s.heap.objs.size ≤ a := fun a v e => by
    obtain ⟨y, i, _, h1, _⟩ := hc a v e
    exact J.ok.cab y a rfl h1
  have un := J.base
  refine ⟨v, putC H' cs, J.os, J.bare, ⟨un.keep, un.slot, fun b o e n hx => ?_, un.there, fun b xs e => putC_old nc (un.tups b xs e), fun b o xs e => putC_old nc (un.frzs b o xs e), fun b ps e => ?_⟩, hok_add J.hok nc fun a v e => ?_, rv, q nc⟩
  · have z : cs.lookup b = none := by
      cases q : cs.lookup b with
      | none => rfl
      | some v => exact absurd (Nat.lt_of_lt_of_le (Heap.lt_size e) (below b v q)) (Nat.lt_irrefl _)
    rw [putC_out z]
    exact un.free b o e n hx
  · obtain ⟨more, q⟩ := un.tbls b ps e
    exact ⟨more, putC_old nc q⟩
  · obtain ⟨y, i, h0, h1, h2, h3⟩ := hc a v e
    obtain ⟨m, hn, hl⟩ := J.loc
    obtain ⟨u', r', l⟩ := hl i y v h2 h3 (.inr (.inl h0))
    rcases l with ⟨z, _⟩ | ⟨_, c, hcc, hcell⟩
    · have z' : (defScope st).names.lookup y = some .local := z
      rw [h0] at z'
      cases z'
    · have : c = a := Option.some.inj (hcc.symm.trans h1)
      rw [← this]
      exact ⟨u', r', hcell⟩
end
end K19

/-! ## K19Lo -/
set_option Elab.async false
set_option linter.all false
set_option maxRecDepth 100000
set_option maxHeartbeats 4000000
/-! the lambdas of _law_calls as texts; what a call ends by -/
namespace K19
open PySem PySem.Spec PyProof.Rows L2 Evl LamX NdefX
/-- the lambdas of _law_calls, in their order -/
def cl (i : Nat) : Expr := match defBody s__law_calls with
  | [.Assign _ (.List [l0, l1] _) _, .Assign _ (.BinOp _ _ (.List [l2] _) _) _, .Expr (.Call _ [l3] _ _) _, .Assign _ (.BinOp _ _ (.List [l4, l5] _) _) _, .Assign _ (.BinOp _ _ (.List [l6, l7] _) _) _, .Assign _ (.BinOp _ _ (.List [l8, l9] _) _) _, .Return (some (.BinOp _ _ (.List [l10] _) _)) _] =>
    [l0, l1, l2, l3, l4, l5, l6, l7, l8, l9, l10].getD i (.Name "" ⟨0, 0, 0, 0⟩)
  | _ => .Name "" ⟨0, 0, 0, 0⟩
def lamA : Expr → Arguments
  | .Lambda a _ _ _ => a
  | _ => ⟨[], [], none, [], [], none, []⟩
def lamB : Expr → Expr
  | .Lambda _ b _ _ => b
  | e => e
def lamS : Expr → Scope
  | .Lambda _ _ s _ => s
  | _ => ⟨.function, [], false, false, []⟩
def lamP : Expr → Pos
  | .Lambda _ _ _ p => p
  | _ => ⟨0, 0, 0, 0⟩
def LF.of (e : Expr) (q : Str) (cells : List (Str × Addr)) (c' : Addr) (dV : Value) : LF := ⟨q, lamA e, lamB e, lamS e, cloFrom cells (lamS e).names [], c', dV⟩
/-! ### data by items -/
theorem lr_map {α β : Type} {R : DR α} {S : DR β} {H : Hp} {f : α → β} (h : ∀ v a, R H v a → S H v (f a)) : ∀ {xs : List V} {as : List α}, LR R H xs as → LR S H xs (as.map f)
  | _, _, .nil => .nil
  | _, _, .cons r t => .cons (h _ _ r) (lr_map h t)
def optD {α : Type} (f : α → PyData) : Option (List α) → PyData
  | none => .none
  | some l => .list (l.map f)
section
variable {K : PySem.W.Frag} {H0 H H1 H' : Hp}
theorem fr_flat {v : V} {d : PyData} (h : Dp K H v d) (n : noL d = true) : ∀ m, frN K H0 m H v d
  | 0 => ⟨h, n⟩
  | _ + 1 => .inl ⟨h, n⟩
theorem fr_list {n : Nat} {p : Addr} {xs : List V} {ds : List PyData} (h0 : H0 p = none) (h : H p = some (.lst xs)) (l : LR (frN K H0 n) H xs ds) : frN K H0 (n + 1) H (.ref p) (.list ds) := .inr ⟨ds, rfl, p, xs, rfl, h0, h, l⟩
theorem noL_lits : ∀ ls : List Lit, noLs (ls.map encLit) = true
  | [] => rfl
  | l :: ls => by
    show (noL (encLit l) && noLs (ls.map encLit)) = true
    rw [noL_lits ls]
    rfl
theorem fr_strs {n : Nat} {p : Addr} {xs : List V} {ls : List Str} (h0 : H0 p = none) (h : H p = some (.lst xs)) (l : LR rStr H xs ls) : frN K H0 (n + 1) H (.ref p) (.list (ls.map PyData.str)) :=
  fr_list h0 h (lr_map (fun v a r => by
    have e : v = .str a := r
    subst e
    exact fr_flat (.str a) rfl _) l)
theorem fr_ints {n : Nat} {p : Addr} {xs : List V} {ls : List Int} (h0 : H0 p = none) (h : H p = some (.lst xs)) (l : LR rInt H xs ls) : frN K H0 (n + 1) H (.ref p) (.list (ls.map PyData.int)) :=
  fr_list h0 h (lr_map (fun v a r => by
    have e : v = .int a := r
    subst e
    exact fr_flat (.int a) rfl _) l)
theorem fr_lits {n : Nat} {p : Addr} {xs : List V} {ls : List Lit} (h0 : H0 p = none) (h : H p = some (.lst xs)) (l : LR (rLit K) H xs ls) : frN K H0 (n + 1) H (.ref p) (.list (ls.map encLit)) :=
  fr_list h0 h (lr_map (fun v a r => fr_flat (dp_lit r) rfl _) l)
end
/-! ### ends of calls -/
inductive Out where
  | ok (d : PyData)
  | dict (kvs : List (Key × V))
  | unsat
  | conf (c : List Lit)
def spOut (K : PySem.W.Frag) : Out → XK → Hp → VK → Prop
  | .ok d => fun _ H Q => ∀ v H', Ex H H' → frN K H 2 H' v d → Q v H'
  | .dict kvs => fun _ H Q => RetK kvs H Q
  | .unsat => fun E H _ => ∀ H', Ex H H' → E (.ref (He.ga K "Unsatisfiable")) none H'
  | .conf c => fun E H _ => ∀ dd H' vt, Ex H H' → H' dd = some (.xd [("chain", vt)]) → rTpl K (rLit K) H' vt c → E (.ref (He.ga K "Conflict")) (some dd) H'
section
variable {K : PySem.W.Frag} {H H1 : Hp} {E : XK} {Q : VK}
theorem spOut_mono {o : Out} (h : spOut K o E H Q) (e : Ex H H1) : spOut K o E H1 Q := by
  cases o with
  | ok d => exact fun v H' e2 f => h v H' (e.trans e2) (fr_back e 2 f)
  | dict kvs => exact fun d H' h0 e2 h2 => h d H' (fresh_back e h0) (e.trans e2) h2
  | unsat => exact fun H' e2 => h H' (e.trans e2)
  | conf c => exact fun dd H' vt e2 => h dd H' vt (e.trans e2)
theorem o_strs {ls : List Str} (h : spOut K (.ok (.list (ls.map PyData.str))) E H Q) : RetN rStr ls H Q := fun p H' xs h0 e h1 l => h _ H' e (fr_strs h0 h1 l)
theorem o_ints {ls : List Int} (h : spOut K (.ok (.list (ls.map PyData.int))) E H Q) : RetN rInt ls H Q := fun p H' xs h0 e h1 l => h _ H' e (fr_ints h0 h1 l)
theorem o_lits {ls : List Lit} (h : spOut K (.ok (.list (ls.map encLit))) E H Q) : RetN (rLit K) ls H Q := fun p H' xs h0 e h1 l => h _ H' e (fr_lits h0 h1 l)
theorem o_groups {gs : List (List Str)} (h : spOut K (.ok (.list (gs.map fun g => .list (g.map PyData.str)))) E H Q) : RetN (rNew H rStr) gs H Q := fun p H' xs h0 e h1 l =>
  h _ H' e (fr_list h0 h1 (lr_map (fun v a ⟨p, ys, e1, e2, e3, e4⟩ => by subst e1; exact fr_strs e2 e3 e4) l))
theorem o_optL {o : Option (List Lit)} (h : spOut K (.ok (optD encLit o)) E H Q) : RetO (rLit K) o H Q := by
  cases o with
  | none => exact fun H' e => h _ H' e (fr_flat .non rfl _)
  | some l => exact o_lits h
theorem o_optS {o : Option (List Str)} (h : spOut K (.ok (optD PyData.str o)) E H Q) : RetO rStr o H Q := by
  cases o with
  | none => exact fun H' e => h _ H' e (fr_flat .non rfl _)
  | some l => exact o_strs h
/-- what a satisfiable grammar gives -/
noncomputable def outS (g : Gram) (o : Out) : Out := if satB g = true then o else .unsat
noncomputable def outC (g : Gram) (ns : List Str) (o : Out) : Out := outS g (match conflictOf (gS g) (sortU ns) with
  | none => o
  | some c => .conf c)
theorem o_sat {g : Gram} {o : Out} (h : spOut K (outS g o) E H Q) (s : satB g = true) : spOut K o E H Q := by
  unfold outS at h
  rw [if_pos s] at h
  exact h
theorem o_noSat {g : Gram} {o : Out} (h : spOut K (outS g o) E H Q) : NoSat K g H E := fun s => by
  unfold outS at h
  rw [if_neg (by rw [s]; decide)] at h
  exact h
theorem o_go {g : Gram} {ns : List Str} {o : Out} (h : spOut K (outC g ns o) E H Q) (s : CGo g ns) : spOut K o E H Q := by
  have h1 := o_sat h s.1
  rw [s.2] at h1
  exact h1
theorem o_err {g : Gram} {ns : List Str} {o : Out} (h : spOut K (outC g ns o) E H Q) : CErr K g ns H E := ⟨o_noSat h, fun s c hc => by
  have h1 := o_sat h s
  rw [hc] at h1
  exact fun d H' vt e e1 e2 => h1 d H' vt e e1 e2⟩
/-! ### told -/
def toldD : Out → PyData
  | .ok d => d
  | .unsat => .tuple [.str "error", .str "Unsatisfiable"]
  | .conf c => .tuple [.str "error", .str "Conflict", .tuple (c.map encLit)]
  | .dict _ => .none
theorem dp_unsat {p : Addr} (h : H p = some (.tup [.str "error", .str "Unsatisfiable"])) : Dp K H (.ref p) (toldD .unsat) := .tup (st_of h) (.cons (.str _) (.cons (.str _) .nil))
theorem dp_conf {p : Addr} {vt : V} {c : List Lit} (h : H p = some (.tup [.str "error", .str "Conflict", vt])) (ht : rTpl K (rLit K) H vt c) : Dp K H (.ref p) (toldD (.conf c)) := by
  obtain ⟨q, xs, rfl, hq, hl⟩ := ht
  exact .tup (st_of h) (.cons (.str _) (.cons (.str _) (.cons (.tup hq (dpAll_lits hl)) .nil)))
theorem noL_conf (c : List Lit) : noL (toldD (.conf c)) = true := by
  show (true && (true && (noLs (c.map encLit) && true))) = true
  rw [noL_lits]
  rfl
/-- told gives the error's tuple, or what the call gave -/
theorem spOut_told {o : Out} (h : ∀ v H', Ex H H' → (∀ kvs, o ≠ .dict kvs) → frN K H 2 H' v (toldD o) → Q v H') (hd : ∀ kvs, o = .dict kvs → RetK kvs H Q) : spOut K o (toldE K Q) H Q := by
  cases o with
  | ok d => exact fun v H' e f => h v H' e (fun _ z => nomatch z) f
  | dict kvs => exact hd kvs rfl
  | unsat => exact fun H' e => .inl ⟨rfl, rfl, fun p H2 e2 hp => h _ H2 (e.trans e2) (fun _ z => nomatch z) (fr_flat (dp_unsat hp) rfl _)⟩
  | conf c => exact fun dd H' vt e h1 h2 => .inr ⟨dd, vt, rfl, rfl, h1, fun p H2 e2 hp => h _ H2 (e.trans e2) (fun _ z => nomatch z) (fr_flat (dp_conf hp (mTpl mLit _ _ _ _ e2 h2)) (noL_conf c) _)⟩
end
/-! ### behind a lambda's run: the cells are put back -/
section
variable {K : PySem.W.Frag} {H H' : Hp} {cs : List (Addr × V)} {E : XK} {Q : VK}
theorem ex_in (nc : NoC H' cs) : Ex H' (putB H H' cs) := fun a o h => putB_old nc h
theorem ex_back (e : Ex (takC H cs) H') : Ex H (putB H H' cs) := fun a o h => by
  cases q : cs.lookup a with
  | some v => rw [putB_in q]; exact h
  | none =>
    rw [putB_out q]
    exact e a o (by rw [takC_out q]; exact h)
theorem new_back (nc : NoC H' cs) {p : Addr} {o : HO} (h0 : takC H cs p = none) (h : H' p = some o) : H p = none := by
  cases q : cs.lookup p with
  | some v => rw [nc p v q] at h; cases h
  | none => rw [takC_out q] at h0; exact h0
theorem fr_lift (nc : NoC H' cs) : ∀ (n : Nat) {v : V} {d : PyData}, frN K (takC H cs) n H' v d → frN K H n (putB H H' cs) v d
  | 0, _, _, h => ⟨dp_mono (ex_in nc) h.1, h.2⟩
  | n + 1, _, _, h => by
    rcases h with h | ⟨ds, h1, p, xs, h2, h3, h4, h5⟩
    · exact .inl ⟨dp_mono (ex_in nc) h.1, h.2⟩
    · exact .inr ⟨ds, h1, p, xs, h2, new_back nc h3 h4, ex_in nc _ _ h4, h5.imp fun v d h => fr_lift nc n h⟩
theorem spOut_lift {o : Out} (h : spOut K o E H Q) : spOut K o (fun cls d H' => NoC H' cs → E cls d (putB H H' cs)) (takC H cs) (fun v H' => NoC H' cs → Q v (putB H H' cs)) := by
  cases o with
  | ok d => exact fun v H' e f nc => h v _ (ex_back e) (fr_lift nc 2 f)
  | dict kvs => exact fun d H' h0 e h1 nc => h d _ (new_back nc h0 h1) (ex_back e) (ex_in nc _ _ h1)
  | unsat => exact fun H' e nc => h _ (ex_back e)
  | conf c => exact fun dd H' vt e h1 h2 nc => h dd _ vt (ex_back e) (ex_in nc _ _ h1) (mTpl mLit _ _ _ _ (ex_in nc) h2)
end
end K19

/-! ## K19Lp -/
set_option Elab.async false
set_option linter.all false
set_option maxRecDepth 100000
set_option maxHeartbeats 4000000
/-! the lambdas of _law_calls, run -/
namespace K19
open PySem PySem.Spec PyProof.Rows L2 Evl LamX NdefX
/-- what the calls lean on -/
structure LEnv (K : PySem.W.Frag) (H : Hp) (vg : V) (pu : Addr) (g : Gram) (ns : List Str) (n : Str) : Prop where
  gram : rGram K H vg g
  good : Good g
  given : H pu = some (.lst (ns.map V.str))
  sub : ∀ z ∈ ns, z ∈ names g
  len : ns.length ≤ 2
  nm : n ∈ names g
section
variable {P : Program} {w : World} {K : PySem.W.Frag} {mg : Str → Option Value} {base : Heap} {H H' : Hp} {vg : V} {pu : Addr} {g : Gram} {ns : List Str} {n : Str}
theorem LEnv.mono (h : LEnv K H vg pu g ns n) (e : Ex H H') : LEnv K H' vg pu g ns n := ⟨mGram _ _ _ _ e h.gram, h.good, e _ _ h.given, h.sub, h.len, h.nm⟩
theorem LEnv.x (h : LEnv K H vg pu g ns n) (e : ExT H H') (hp : H' pu = H pu) : LEnv K H' vg pu g ns n := ⟨xGram _ _ _ _ e h.gram, h.good, hp.trans h.given, h.sub, h.len, h.nm⟩
theorem LEnv.lst (h : LEnv K H vg pu g ns n) : rLst K rStr H (.ref pu) ns := ⟨pu, _, rfl, sq_of h.given, lr_strOf ns⟩
theorem ext_tak {cs : List (Addr × V)} (c : HasC H cs) : ExT H (takC H cs) := ⟨fun b xs h => by rw [takC_out (c.out h (fun φ z => by cases z) fun ob φ z => by cases z)]; exact h, fun b o xs h => by rw [takC_out (c.out h (fun φ z => by cases z) fun ob φ z => by cases z)]; exact h⟩
theorem LEnv.tak {cs : List (Addr × V)} (h : LEnv K H vg pu g ns n) (c : HasC H cs) : LEnv K (takC H cs) vg pu g ns n := h.x (ext_tak c) (takC_out (c.out h.given (fun φ z => by cases z) fun ob φ z => by cases z))
/-- a lambda that was made: how it runs -/
def LamS (K : PySem.W.Frag) (f : Addr) (F : LF) (ps fr : List Str) (ws : List V) (vg : V) (pu : Addr) (g : Gram) (ns : List Str) (n : Str) (o : Out) : XK → Hp → VK → Prop :=
  fun E H Q => ∃ vs cs, vs.length = ps.length ∧ LamT H f F fr ws cs vs ∧ LEnv K H vg pu g ns n ∧ spOut K o E H Q
theorem lam_go {N ps fr : List Str} {F : LF} {f : Addr} {k : Nat} {ws : List V} {o : Out} (S : NScope N ps fr F.scope) (hb : BindF F ps)
    (h : ∀ (A : Around) (outer : List Env) (s : Shared) (H : Hp) (E : XK) (Q : VK) (vs : List V), Room k (A.deeper (envF F.nf f s.heap.objs.size)) → vs.length = ps.length → LEnv K H vg pu g ns n → spOut K o E H Q →
      ∃ te, PE (ncx (L2.CX P w) P w K mg base N F.nf f A outer s H E) F.body te ∧ te (startF N vs (ws.map some)) H Q) : LamRun P w K mg base (k + 1) f (LamS K f F ps fr ws vg pu g ns n o) := by
  rintro A outer s H Q E hr e0 ⟨vs, cs, hl, L, le, ho⟩
  obtain ⟨te, h1, h2⟩ := h A outer s (takC H cs) _ _ vs (hr.deeper _) hl (le.tak L.cells) (spOut_lift ho)
  exact run_lam S hb hl hr e0 L (fun _ => h1) h2
variable {f c' : Addr} {q : Str} {cells : List (Str × Addr)} {dV : Value}
theorem bindN {e : Expr} {ps : List Str} (h : dV ≠ .none) (hb : ∀ doc pm ctv (t : Addr) (u : Value), dV = .ref t → ∃ k, bindArgs ((LF.of e q cells c' dV).fd doc pm ctv) ⟨[], []⟩ = seqItems? ((LF.of e q cells c' dV).fd doc pm ctv).defaults >>= k ∧ k (some [u].toArray) = pure (ps.zip [u])) : BindF (LF.of e q cells c' dV) ps :=
  ⟨fun doc pm ctv e => absurd e h, hb⟩
theorem run_0 (T : Txt K mg) : LamRun P w K mg base 10 f (LamS K f (LF.of (cl 0) q cells c' .none) [] ["_law_grammar_here"] [vg] vg pu g ns n (.ok (.list ((names g).map PyData.str)))) := by
  refine lam_go (N := ["_law_grammar_here"]) (show NScope _ _ _ (lamS (cl 0)) from nscope_by (by decide +kernel)) ⟨fun doc pm ctv _ => ⟨rfl, by rfl⟩, fun doc pm ctv t u e => nomatch e⟩ fun A outer s H E Q vs hr hl le ho => ⟨_, pe_c (ok_option_names T) hr (by decide) rfl pass0 (pa_cons (pv 0) pa_nil), ?_⟩
  · match vs, hl with
    | [], _ =>
      exact ⟨_, rfl, _, g, rfl, le.gram, le.good, o_strs ho⟩
theorem run_1 (T : Txt K mg) (hd : dV ≠ .none) : LamRun P w K mg base 10 f (LamS K f (LF.of (cl 1) q cells c' dV) ["_law_a"] ["_law_grammar_here", "_law_name"] [vg, .str n] vg pu g ns n (.ok (.list ((sortLits (reachOf (gS g) (n, true))).map encLit)))) := by
  refine lam_go (N := ["_law_a", "_law_grammar_here", "_law_name"]) (show NScope _ _ _ (lamS (cl 1)) from nscope_by (by decide +kernel)) (bindN hd fun doc pm ctv t u e => ⟨_, by rfl, by rfl⟩) fun A outer s H E Q vs hr hl le ho => ⟨_, pe_c (ok_consequences T) hr (by decide) rfl pass0 (pa_cons (pv 1) (pa_cons (pe_lst (pa_cons (pe_tup (pa_cons (pv 2) (pa_cons pe_bl pa_nil))) pa_nil)) pa_nil)), ?_⟩
  · match vs, hl with
    | [x], _ =>
      refine ⟨_, rfl, _, rfl, by show 2 ≤ sizeLine; decide, fun t ht => ⟨by show 1 ≤ sizeLine; decide, fun l hl => ?_⟩⟩
      have e := (Ex.new (o := .tup [.str n, .bl true]) ht).trans (Ex.new (o := .lst [.ref t]) hl)
      have le2 := le.mono e
      have hlit : rLit K (upd (upd H t (.tup [.str n, .bl true])) l (.lst [.ref t])) (.ref t) (n, true) := ⟨t, _, _, rfl, ex_t (Ex.new (o := .lst [.ref t]) hl) (st_of upd_same), rfl, rfl⟩
      exact ⟨_, g, _, (n, true), rfl, le2.gram, le2.good, ⟨l, _, rfl, sq_of upd_same, .cons hlit .nil⟩, le2.nm, o_lits (spOut_mono ho e)⟩
theorem run_2 (T : Txt K mg) (hd : dV ≠ .none) : LamRun P w K mg base 10 f (LamS K f (LF.of (cl 2) q cells c' dV) ["_law_b"] ["_law_grammar_here", "_law_name"] [vg, .str n] vg pu g ns n (.ok (optD encLit (chainOf (gS g) (n, true) (n, true))))) := by
  refine lam_go (N := ["_law_b", "_law_grammar_here", "_law_name"]) (show NScope _ _ _ (lamS (cl 2)) from nscope_by (by decide +kernel)) (bindN hd fun doc pm ctv t u e => ⟨_, by rfl, by rfl⟩) fun A outer s H E Q vs hr hl le ho => ⟨_, pe_c (ok_find_chain T) hr (by decide) rfl pass0 (pa_cons (pv 1) (pa_cons (pe_tup (pa_cons (pv 2) (pa_cons pe_bl pa_nil))) (pa_cons (pe_tup (pa_cons (pv 2) (pa_cons pe_bl pa_nil))) pa_nil))), ?_⟩
  · match vs, hl with
    | [x], _ =>
      refine ⟨_, rfl, _, rfl, by show 2 ≤ sizeLine; decide, fun t ht => ⟨_, rfl, by show 2 ≤ sizeLine; decide, fun l hl => ?_⟩⟩
      have e := (Ex.new (o := .tup [.str n, .bl true]) ht).trans (Ex.new (o := .tup [.str n, .bl true]) hl)
      have le2 := le.mono e
      have hlit : rLit K (upd (upd H t (.tup [.str n, .bl true])) l (.tup [.str n, .bl true])) (.ref t) (n, true) := ⟨t, _, _, rfl, ex_t (Ex.new (o := .tup [.str n, .bl true]) hl) (st_of upd_same), rfl, rfl⟩
      have hlit2 : rLit K (upd (upd H t (.tup [.str n, .bl true])) l (.tup [.str n, .bl true])) (.ref l) (n, true) := ⟨l, _, _, rfl, st_of upd_same, rfl, rfl⟩
      exact ⟨_, g, _, _, (n, true), (n, true), rfl, le2.gram, le2.good, hlit, hlit2, le2.nm, le2.nm, o_optL (spOut_mono ho e)⟩
theorem run_3 (T : Txt K mg) (hd : dV ≠ .none) : LamRun P w K mg base 10 f (LamS K f (LF.of (cl 3) q cells c' dV) ["_law_c"] ["_law_grammar_here", "_law_given_here"] [vg, .ref pu] vg pu g ns n (outC g ns (.ok (optD PyData.str (completeOf g (sortU ns)))))) := by
  refine lam_go (N := ["_law_c", "_law_grammar_here", "_law_given_here"]) (show NScope _ _ _ (lamS (cl 3)) from nscope_by (by decide +kernel)) (bindN hd fun doc pm ctv t u e => ⟨_, by rfl, by rfl⟩) fun A outer s H E Q vs hr hl le ho => ⟨_, pe_c (ok_complete T) hr (by decide) rfl (passes_call (takes_of rfl rfl rfl rfl) fun _ _ _ _ h => h) (pa_cons (pv 1) (pa_cons (pv 2) pa_nil)), ?_⟩
  · match vs, hl with
    | [x], _ =>
      exact ⟨_, rfl, _, rfl, _, g, _, ns, rfl, le.gram, le.good, le.lst, le.sub, le.len, fun s => o_optS (o_go ho s), o_err ho⟩
theorem run_4 (T : Txt K mg) (hd : dV ≠ .none) : LamRun P w K mg base 10 f (LamS K f (LF.of (cl 4) q cells c' dV) ["_law_e"] ["_law_grammar_here", "_law_given_here", "_law_name"] [vg, .ref pu, .str n] vg pu g ns n (outC g ns (.ok (optD encLit (explainOf g (sortU ns) n))))) := by
  refine lam_go (N := ["_law_e", "_law_grammar_here", "_law_given_here", "_law_name"]) (show NScope _ _ _ (lamS (cl 4)) from nscope_by (by decide +kernel)) (bindN hd fun doc pm ctv t u e => ⟨_, by rfl, by rfl⟩) fun A outer s H E Q vs hr hl le ho => ⟨_, pe_c (ok_explain_verdict T) hr (by decide) rfl (passes_call (takes_of rfl rfl rfl rfl) fun _ _ _ _ h => h) (pa_cons (pv 1) (pa_cons (pv 2) (pa_cons (pv 3) pa_nil))), ?_⟩
  · match vs, hl with
    | [x], _ =>
      exact ⟨_, rfl, _, rfl, _, rfl, _, g, _, ns, n, rfl, le.gram, le.good, le.lst, le.sub, le.len, le.nm, fun s => o_optL (o_go ho s), o_err ho⟩
theorem run_5 (T : Txt K mg) (hd : dV ≠ .none) : LamRun P w K mg base 10 f (LamS K f (LF.of (cl 5) q cells c' dV) ["_law_f"] ["_law_grammar_here"] [vg] vg pu g ns n (outS g (.ok (.list ((alwaysOf g).map PyData.str))))) := by
  refine lam_go (N := ["_law_f", "_law_grammar_here"]) (show NScope _ _ _ (lamS (cl 5)) from nscope_by (by decide +kernel)) (bindN hd fun doc pm ctv t u e => ⟨_, by rfl, by rfl⟩) fun A outer s H E Q vs hr hl le ho => ⟨_, pe_c (ok_always_required T) hr (by decide) rfl (passes_call (takes_of rfl rfl rfl rfl) fun _ _ _ _ h => h) (pa_cons (pv 1) pa_nil), ?_⟩
  · match vs, hl with
    | [x], _ =>
      exact ⟨_, rfl, _, g, rfl, le.gram, le.good, fun s => o_strs (o_sat ho s), o_noSat ho⟩
theorem run_6 (T : Txt K mg) (hd : dV ≠ .none) : LamRun P w K mg base 10 f (LamS K f (LF.of (cl 6) q cells c' dV) ["_law_g"] ["_law_grammar_here"] [vg] vg pu g ns n (outS g (.ok (.list ((groupsOf g).map fun l => .list (l.map PyData.str)))))) := by
  refine lam_go (N := ["_law_g", "_law_grammar_here"]) (show NScope _ _ _ (lamS (cl 6)) from nscope_by (by decide +kernel)) (bindN hd fun doc pm ctv t u e => ⟨_, by rfl, by rfl⟩) fun A outer s H E Q vs hr hl le ho => ⟨_, pe_c (ok_option_groups T) hr (by decide) rfl (passes_call (takes_of rfl rfl rfl rfl) fun _ _ _ _ h => h) (pa_cons (pv 1) pa_nil), ?_⟩
  · match vs, hl with
    | [x], _ =>
      exact ⟨_, rfl, _, g, rfl, le.gram, le.good, fun s => o_groups (o_sat ho s), o_noSat ho⟩
theorem run_7 (T : Txt K mg) (hd : dV ≠ .none) : LamRun P w K mg base 10 f (LamS K f (LF.of (cl 7) q cells c' dV) ["_law_h"] ["_law_grammar_here"] [vg] vg pu g ns n (outS g (.ok (.list ((redundantOf g).map PyData.int))))) := by
  refine lam_go (N := ["_law_h", "_law_grammar_here"]) (show NScope _ _ _ (lamS (cl 7)) from nscope_by (by decide +kernel)) (bindN hd fun doc pm ctv t u e => ⟨_, by rfl, by rfl⟩) fun A outer s H E Q vs hr hl le ho => ⟨_, pe_c (ok_redundant_clauses T) hr (by decide) rfl (passes_call (takes_of rfl rfl rfl rfl) fun _ _ _ _ h => h) (pa_cons (pv 1) pa_nil), ?_⟩
  · match vs, hl with
    | [x], _ =>
      exact ⟨_, rfl, _, g, rfl, le.gram, le.good, fun s => o_ints (o_sat ho s), o_noSat ho⟩
theorem run_8 (T : Txt K mg) (hd : dV ≠ .none) : LamRun P w K mg base 10 f (LamS K f (LF.of (cl 8) q cells c' dV) ["_law_i"] ["_law_grammar_here", "_law_name"] [vg, .str n] vg pu g ns n (outS g (.ok (optD encLit (impChainOf (gS g) ("needs", n, n)))))) := by
  refine lam_go (N := ["_law_i", "_law_grammar_here", "_law_name"]) (show NScope _ _ _ (lamS (cl 8)) from nscope_by (by decide +kernel)) (bindN hd fun doc pm ctv t u e => ⟨_, by rfl, by rfl⟩) fun A outer s H E Q vs hr hl le ho => ⟨_, pe_c (ok_implied T) hr (by decide) rfl (passes_call (takes_of rfl rfl rfl rfl) fun _ _ _ _ h => h) (pa_cons (pv 1) (pa_cons (pe_tup (pa_cons pe_str (pa_cons (pv 2) (pa_cons (pv 2) pa_nil)))) pa_nil)), ?_⟩
  · match vs, hl with
    | [x], _ =>
      refine ⟨_, rfl, _, rfl, _, rfl, by show 3 ≤ sizeLine; decide, fun t ht => ?_⟩
      have e := Ex.new (o := .tup [.str "needs", .str n, .str n]) ht
      have le2 := le.mono e
      have hcl : rCl K (upd H t (.tup [.str "needs", .str n, .str n])) (.ref t) ("needs", n, n) := ⟨t, _, _, _, rfl, st_of upd_same, rfl, rfl, rfl⟩
      exact ⟨_, g, _, ("needs", n, n), rfl, le2.gram, le2.good, hcl, ⟨(by decide : ("needs" : Str) ∈ words3), le2.nm, le2.nm⟩, fun s => o_optL (o_sat (spOut_mono ho e) s), o_noSat (spOut_mono ho e)⟩
theorem run_9 (T : Txt K mg) (hd : dV ≠ .none) : LamRun P w K mg base 10 f (LamS K f (LF.of (cl 9) q cells c' dV) ["_law_j"] ["_law_grammar_here"] [vg] vg pu g ns n (outS g (.ok (.list ((neverOf g).map PyData.str))))) := by
  refine lam_go (N := ["_law_j", "_law_grammar_here"]) (show NScope _ _ _ (lamS (cl 9)) from nscope_by (by decide +kernel)) (bindN hd fun doc pm ctv t u e => ⟨_, by rfl, by rfl⟩) fun A outer s H E Q vs hr hl le ho => ⟨_, pe_c (ok_never_possible T) hr (by decide) rfl (passes_call (takes_of rfl rfl rfl rfl) fun _ _ _ _ h => h) (pa_cons (pv 1) pa_nil), ?_⟩
  · match vs, hl with
    | [x], _ =>
      exact ⟨_, rfl, _, g, rfl, le.gram, le.good, fun s => o_strs (o_sat ho s), o_noSat ho⟩
theorem run_10 (T : Txt K mg) (hd : dV ≠ .none) : LamRun P w K mg base 10 f (LamS K f (LF.of (cl 10) q cells c' dV) ["_law_k"] ["_law_grammar_here", "_law_name"] [vg, .str n] vg pu g ns n (outS g (.ok (optD PyData.str (counterOf g ("excludes", n, n)))))) := by
  refine lam_go (N := ["_law_k", "_law_grammar_here", "_law_name"]) (show NScope _ _ _ (lamS (cl 10)) from nscope_by (by decide +kernel)) (bindN hd fun doc pm ctv t u e => ⟨_, by rfl, by rfl⟩) fun A outer s H E Q vs hr hl le ho => ⟨_, pe_c (ok_counterexample T) hr (by decide) rfl (passes_call (takes_of rfl rfl rfl rfl) fun _ _ _ _ h => h) (pa_cons (pv 1) (pa_cons (pe_tup (pa_cons pe_str (pa_cons (pv 2) (pa_cons (pv 2) pa_nil)))) pa_nil)), ?_⟩
  · match vs, hl with
    | [x], _ =>
      refine ⟨_, rfl, _, rfl, _, rfl, by show 3 ≤ sizeLine; decide, fun t ht => ?_⟩
      have e := Ex.new (o := .tup [.str "excludes", .str n, .str n]) ht
      have le2 := le.mono e
      have hcl : rCl K (upd H t (.tup [.str "excludes", .str n, .str n])) (.ref t) ("excludes", n, n) := ⟨t, _, _, _, rfl, st_of upd_same, rfl, rfl, rfl⟩
      exact ⟨_, g, _, ("excludes", n, n), rfl, le2.gram, le2.good, hcl, ⟨(by decide : ("excludes" : Str) ∈ words3), le2.nm, le2.nm⟩, fun s => o_optS (o_sat (spOut_mono ho e) s), o_noSat (spOut_mono ho e)⟩
end
end K19

/-! ## K19Lq -/
set_option Elab.async false
set_option linter.all false
set_option maxRecDepth 100000
set_option maxHeartbeats 4000000
/-! _law_calls: the lambdas are made -/
namespace K19
open PySem PySem.Spec PyProof.Rows L2 Evl LamX NdefX
def qC : Str := "_law_calls" ++ ".<locals>." ++ "<lambda>"
/-- at f stands a lambda made of e; dt: it has a default -/
def MadeL (H : Hp) (f : Addr) (e : Expr) (q : Str) (cells : List (Str × Addr)) (dt : Bool) : Prop := ∃ c' dV vs, H f = some (LamO f (LF.of e q cells c' dV)) ∧ H c' = some (CodeO c' q) ∧ DefT H dV vs ∧ (dt = false → dV = .none ∧ vs = []) ∧ (dt = true → dV ≠ .none ∧ vs.length = 1)
theorem DefT.f {H H' : Hp} {dV : Value} {vs : List V} (h : DefT H dV vs) (e : ExF H H') : DefT H' dV vs := h.elim .inl fun ⟨t, i, h1, h2, h3⟩ => .inr ⟨t, i, h1, h2, e _ _ True.intro h3⟩
theorem MadeL.f {H H' : Hp} {f : Addr} {x : Expr} {q : Str} {cells : List (Str × Addr)} {dt : Bool} (h : MadeL H f x q cells dt) (e : ExF H H') : MadeL H' f x q cells dt := by
  obtain ⟨c', dV, vs, h1, h2, h3, h4⟩ := h
  exact ⟨c', dV, vs, e _ _ True.intro h1, e _ _ True.intro h2, h3.f e, h4⟩
/-- the making, read -/
def tMake1 (T : List NTab) (x : Expr) (q : Str) (cells : List (Str × Addr)) (dt : Bool) : TE := fun σ H Q => TabsN T H ∧ ∀ (f : Addr) (H1 : Hp), ExtN H H1 → (∀ b, H1 b = Option.none → H b = Option.none) → TabsN T H1 → H f = none → MadeL H1 f x q cells dt → Q (.ref f) H1
section
variable {X : Cx} {T : List NTab} {nm : Nat → Nat → Str} {c P : Addr} {x : Expr}
theorem pe_lamE0 (x : Expr) (he : x = .Lambda (lamA x) (lamB x) (lamS x) (lamP x)) (TB : TabB X.base X.mg c P) (hcode : X.env.code = .ref c) (hm : (P, nm) ∈ T) (hn : nm (lamP x).line (lamP x).col = X.env.qual ++ "<lambda>") (hu : ∀ p ∈ T, p.1 = P → p.2 = nm)
    (hfree : ∀ y ∈ (lamS x).names, y.2 = .free → X.env.scope.names.lookup y.1 = some .cell ∨ X.env.scope.names.lookup y.1 = some .free) (hdef : defaultsOf (lamA x) X.env = ([], [])) : PE X x (tMake1 T x (X.env.qual ++ "<lambda>") X.env.cells false) := by
  have h := pe_lam0 (params := lamA x) (body := lamB x) (pos := lamP x) TB hcode hm hn hu hfree hdef
  rw [← he] at h
  exact ⟨fun pins s σ H Q I q => h.run pins s σ H Q I ⟨q.1, fun f c' H1 e1 e2 T1 hf hF hC => q.2 f H1 e1 e2 T1 hf ⟨c', .none, [], hF, hC, .inl ⟨rfl, rfl⟩, fun _ => ⟨rfl, rfl⟩, fun z => nomatch z⟩⟩⟩
theorem pe_lamE1 (x : Expr) (he : x = .Lambda (lamA x) (lamB x) (lamS x) (lamP x)) (TB : TabB X.base X.mg c P) (hcode : X.env.code = .ref c) (hm : (P, nm) ∈ T) (hn : nm (lamP x).line (lamP x).col = X.env.qual ++ "<lambda>") (hu : ∀ p ∈ T, p.1 = P → p.2 = nm)
    (hfree : ∀ y ∈ (lamS x).names, y.2 = .free → X.env.scope.names.lookup y.1 = some .cell ∨ X.env.scope.names.lookup y.1 = some .free) {d : Expr} (hd : (lamA x).defaults = [d]) (hk : (lamA x).kw_defaults = []) (hde : PE X d (tC (.int 0))) : PE X x (tMake1 T x (X.env.qual ++ "<lambda>") X.env.cells true) := by
  have h := pe_lam1 (params := lamA x) (body := lamB x) (pos := lamP x) TB hcode hm hn hu hfree hd hk hde
  rw [← he] at h
  exact ⟨fun pins s σ H Q I q => h.run pins s σ H Q I ⟨q.1, fun f c' t H1 e1 e2 T1 hf ht hT hF hC => q.2 f H1 e1 e2 T1 hf ⟨c', .ref t, [.int 0], hF, hC, .inr ⟨t, 0, rfl, rfl, hT⟩, (fun z => nomatch z), fun _ => ⟨(fun z => nomatch z), rfl⟩⟩⟩⟩
end
theorem tabsN_mut {T : List NTab} {H : Hp} {p : Addr} {l l' : List V} (t : TabsN T H) (h : H p = some (.lst l)) : TabsN T (upd H p (.lst l')) := fun q hq => by
  obtain ⟨ps, h1, h2, h3⟩ := t q hq
  refine ⟨ps, by rw [upd_ne (ne_of h1 h (fun z => by cases z))]; exact h1, h2, fun pos cv hc => ?_⟩
  obtain ⟨c, e1, e2⟩ := h3 pos cv hc
  exact ⟨c, e1, by rw [upd_ne (ne_of e2 h (fun z => by unfold CodeO at z; cases z))]; exact e2⟩
/-- so far the lambdas at fs are made -/
structure MB (T : List NTab) (cells : List (Str × Addr)) (H0 : Hp) (fs : List Addr) (H : Hp) : Prop where
  ex : ExtN H0 H
  fr : ∀ b, H b = none → H0 b = none
  tb : TabsN T H
  md : ∀ i f, fs[i]? = some f → MadeL H f (cl i) qC cells (decide (i ≠ 0))
section
variable {T : List NTab} {cells : List (Str × Addr)} {H0 H H1 : Hp} {fs : List Addr}
theorem MB.step (b : MB T cells H0 fs H) {f : Addr} {i : Nat} (hi : fs.length = i) (e : ExtN H H1) (n : ∀ b, H1 b = none → H b = none) (t : TabsN T H1) (m : MadeL H1 f (cl i) qC cells (decide (i ≠ 0))) : MB T cells H0 (fs ++ [f]) H1 :=
  ⟨b.ex.trans e, fun a h => b.fr a (n a h), t, fun j g hj => by
    by_cases h : j < fs.length
    · rw [List.getElem?_append_left h] at hj
      exact (b.md j g hj).f (ExF.n e)
    · rw [List.getElem?_append_right (by omega)] at hj
      have h2 : j - fs.length = 0 := by
        cases q : j - fs.length with
        | zero => rfl
        | succ k => rw [q] at hj; simp at hj
      rw [h2] at hj
      have h3 : j = i := by omega
      subst h3
      cases hj
      exact m⟩
theorem MB.ext (b : MB T cells H0 fs H) (e : Ex H H1) : MB T cells H0 fs H1 := ⟨b.ex.trans (ExtN.of e), fun a h => b.fr a (fresh_back e h), b.tb.ext e, fun j g hj => (b.md j g hj).f (ExF.of e)⟩
theorem MB.mut (b : MB T cells H0 fs H) {p : Addr} {l l' : List V} (h : H p = some (.lst l)) (h0 : H0 p = none) : MB T cells H0 fs (upd H p (.lst l')) :=
  ⟨fun a o q n => by rw [upd_ne (ne_of_none q h0)]; exact b.ex a o q n, fun a q => b.fr a (upd_none q), tabsN_mut b.tb h, fun j g hj => (b.md j g hj).f fun a o hf q => by
    rw [upd_ne (fun z => by subst z; rw [h] at q; cases q; exact hf)]
    exact q⟩
end
theorem cells3 (n : Nat) : cellsFrom n (defScope s__law_calls).names [] = ([("_law_name", n + 1 + 1), ("_law_given_here", n + 1), ("_law_grammar_here", n)] : List (Str × Addr)) := rfl
theorem sc__law_calls : FnScope ["_law_grammar_here", "_law_given_here", "_law_name", "_law_calls_here"] p__law_calls (defScope s__law_calls) := ⟨rfl, rfl, rfl, by decide +kernel, rfl, by decide +kernel, by decide +kernel⟩
def nm3 : List Str := ["_law_grammar_here", "_law_given_here", "_law_name"]
/-- the free names of the lambdas -/
def free3 (i : Nat) : Bool := (lamS (cl i)).names.all fun y => !decide (y.2 = .free) || decide (y.1 ∈ nm3)
theorem free3_ok : ∀ i, i < 11 → free3 i = true := by decide +kernel
theorem lam_free {i : Nat} (hi : i < 11) : ∀ y ∈ (lamS (cl i)).names, y.2 = .free → (defScope s__law_calls).names.lookup y.1 = some .cell ∨ (defScope s__law_calls).names.lookup y.1 = some .free := fun y hy e => by
  have h := List.all_eq_true.mp (free3_ok i hi) y hy
  simp only [e, decide_true, Bool.not_true, Bool.false_or, decide_eq_true_eq] at h
  have k : ∀ z ∈ nm3, (defScope s__law_calls).names.lookup z = some .cell := by decide +kernel
  exact .inl (k _ h)
section
variable {T : List NTab} {cells : List (Str × Addr)} {H0 H : Hp} {fs : List Addr} {σ : L2.St} {Q : VK} {i j : Nat}
theorem r_make (b : MB T cells H0 fs H) (hi : fs.length = i) (k : ∀ f H1, MB T cells H0 (fs ++ [f]) H1 → ExtN H H1 → Q (.ref f) H1) : tMake1 T (cl i) qC cells (decide (i ≠ 0)) σ H Q := ⟨b.tb, fun f H1 e n t _ m => k f H1 (b.step hi e n t m) e⟩
theorem r_lst1 (b : MB T cells H0 fs H) (hi : fs.length = i) (k : ∀ f p H1, MB T cells H0 (fs ++ [f]) H1 → ExtN H H1 → H1 p = some (.lst [.ref f]) → H0 p = none → Q (.ref p) H1) : tLst (tCons (tMake1 T (cl i) qC cells (decide (i ≠ 0))) tNil) σ H Q := by
  show tMake1 T (cl i) qC cells _ σ H (fun x H1 => [x].length ≤ sizeLine ∧ ∀ p, H1 p = none → Q (.ref p) (upd H1 p (.lst [x])))
  exact r_make b hi fun f H1 b1 e1 => ⟨by show 1 ≤ sizeLine; decide, fun p hp => k f p _ (b1.ext (Ex.new hp)) (e1.trans (ExtN.of (Ex.new hp))) upd_same (b1.fr p hp)⟩
theorem r_lst2 (b : MB T cells H0 fs H) (hi : fs.length = i) (hj : i + 1 = j) (k : ∀ f f2 p H1, MB T cells H0 (fs ++ [f, f2]) H1 → ExtN H H1 → H1 p = some (.lst [.ref f, .ref f2]) → H0 p = none → Q (.ref p) H1) : tLst (tCons (tMake1 T (cl i) qC cells (decide (i ≠ 0))) (tCons (tMake1 T (cl j) qC cells (decide (j ≠ 0))) tNil)) σ H Q := by
  show tMake1 T (cl i) qC cells _ σ H (fun x H1 => tMake1 T (cl j) qC cells _ σ H1 (fun y H2 => [x, y].length ≤ sizeLine ∧ ∀ p, H2 p = none → Q (.ref p) (upd H2 p (.lst [x, y]))))
  exact r_make b hi fun f H1 b1 e1 => r_make b1 (by simp; omega) fun f2 H2 b2 e2 => ⟨by show 2 ≤ sizeLine; decide, fun p hp => k f f2 p _ (by
    rw [List.append_assoc] at b2
    exact b2.ext (Ex.new hp)) ((e1.trans e2).trans (ExtN.of (Ex.new hp))) upd_same (b2.fr p hp)⟩
theorem r_cat {l b2 : Addr} {xs zs : List V} (h : H l = some (.lst xs)) (h2 : H b2 = some (.lst zs)) (b : MB T cells H0 fs H) (hz : xs.length + zs.length ≤ 11) (k : ∀ p H1, MB T cells H0 fs H1 → H1 p = some (.lst (xs ++ zs)) → H0 p = none → Q (.ref p) H1) : rCat (.ref l) (.ref b2) H Q :=
  ⟨l, b2, xs, zs, rfl, rfl, h, h2, Nat.le_trans hz (by decide), fun p hp => k p _ (b.ext (Ex.new hp)) upd_same (b.fr p hp)⟩
end
abbrev cells3L (L : Nat) : List (Str × Addr) := [("_law_name", L + 1 + 1 + 1), ("_law_given_here", L + 1 + 1), ("_law_grammar_here", L + 1)]
abbrev cs3 (L : Nat) (vg vu vn : V) : List (Addr × V) := [(L + 1, vg), (L + 1 + 1, vu), (L + 1 + 1 + 1, vn)]
section
variable {L : Nat} {vg vu vn v : V} {a : Addr}
theorem lkN {α : Type} {a : Addr} {v : α} : ∀ {l : List (Addr × α)}, l.lookup a = some v → (a, v) ∈ l
  | [], h => by cases h
  | (b, u) :: r, h => by
    have h2 : (match a == b with | true => some u | false => r.lookup a) = some v := h
    cases q : (a == b) with
    | true =>
      rw [q] at h2
      have e : u = v := Option.some.inj h2
      rw [beq_iff_eq.mp q, e]
      exact List.mem_cons_self
    | false =>
      rw [q] at h2
      exact List.mem_cons_of_mem _ (lkN h2)
theorem n12 (L : Nat) : L + 1 ≠ L + 1 + 1 := by omega
theorem n13 (L : Nat) : L + 1 ≠ L + 1 + 1 + 1 := by omega
theorem n23 (L : Nat) : L + 1 + 1 ≠ L + 1 + 1 + 1 := by omega
theorem cs3_mem (h : (cs3 L vg vu vn).lookup a = some v) : (a = L + 1 ∧ v = vg) ∨ (a = L + 1 + 1 ∧ v = vu) ∨ (a = L + 1 + 1 + 1 ∧ v = vn) := by
  have m := lkN h
  simpa using m
theorem cs3_0 : (cs3 L vg vu vn).lookup (L + 1) = some vg := by
  show (match (L + 1 == L + 1) with | true => some vg | false => _) = _
  rw [beq_self_eq_true]
theorem cs3_1 : (cs3 L vg vu vn).lookup (L + 1 + 1) = some vu := by
  show (match (L + 1 + 1 == L + 1) with | true => some vg | false => (match (L + 1 + 1 == L + 1 + 1) with | true => some vu | false => _)) = _
  rw [beq_self_eq_true, show (L + 1 + 1 == L + 1) = false from beq_eq_false_iff_ne.mpr (by omega)]
theorem cs3_2 : (cs3 L vg vu vn).lookup (L + 1 + 1 + 1) = some vn := by
  show (match (L + 1 + 1 + 1 == L + 1) with | true => some vg | false => (match (L + 1 + 1 + 1 == L + 1 + 1) with | true => some vu | false => (match (L + 1 + 1 + 1 == L + 1 + 1 + 1) with | true => some vn | false => _))) = _
  rw [beq_self_eq_true, show (L + 1 + 1 + 1 == L + 1) = false from beq_eq_false_iff_ne.mpr (by omega), show (L + 1 + 1 + 1 == L + 1 + 1) = false from beq_eq_false_iff_ne.mpr (by omega)]
theorem cells3_mem {y : Str} (h : (cells3L L).lookup y = some a) : (y = "_law_name" ∧ a = L + 1 + 1 + 1) ∨ (y = "_law_given_here" ∧ a = L + 1 + 1) ∨ (y = "_law_grammar_here" ∧ a = L + 1) := by
  have m := PySem.mem_of_lookup h
  simpa using m
theorem cs3_all : ∀ (y : Str) (c : Addr), (cells3L L).lookup y = some c → ∃ v, (cs3 L vg vu vn).lookup c = some v := fun y c h => by
  rcases cells3_mem h with ⟨_, rfl⟩ | ⟨_, rfl⟩ | ⟨_, rfl⟩
  · exact ⟨_, cs3_2⟩
  · exact ⟨_, cs3_1⟩
  · exact ⟨_, cs3_0⟩
theorem cells3_inj : ∀ (x y : Str) (c : Addr), (cells3L L).lookup x = some c → (cells3L L).lookup y = some c → x = y := fun x y c h h2 => by
  rcases cells3_mem h with ⟨rfl, e⟩ | ⟨rfl, e⟩ | ⟨rfl, e⟩ <;> rcases cells3_mem h2 with ⟨rfl, e2⟩ | ⟨rfl, e2⟩ | ⟨rfl, e2⟩ <;> first | rfl | exact absurd (e.symm.trans e2) (n12 L) | exact absurd (e.symm.trans e2) (n13 L) | exact absurd (e.symm.trans e2) (n23 L) | exact absurd (e2.symm.trans e) (n12 L) | exact absurd (e2.symm.trans e) (n13 L) | exact absurd (e2.symm.trans e) (n23 L)
theorem cs3_vals : ∀ (j : Nat) (y : Str), nm3[j]? = some y → ∃ c v, (cells3L L).lookup y = some c ∧ [vg, vu, vn][j]? = some v ∧ (cs3 L vg vu vn).lookup c = some v := fun j y h => by
  match j, h with
  | 0, h => cases h; exact ⟨L + 1, vg, rfl, rfl, cs3_0⟩
  | 1, h => cases h; exact ⟨L + 1 + 1, vu, rfl, rfl, cs3_1⟩
  | 2, h => cases h; exact ⟨L + 1 + 1 + 1, vn, rfl, rfl, cs3_2⟩
  | j + 3, h => cases h
end
/-- what _law_calls hands out -/
structure CallsR (T : List NTab) (H H' : Hp) (r : Addr) (fs : List Addr) (cells : List (Str × Addr)) (cs : List (Addr × V)) (vg vu vn : V) : Prop where
  ex : ExtN H H'
  fr : ∀ b, H' b = none → H b = none
  tb : TabsN T H'
  new : H r = none
  lst : H' r = some (.lst (fs.map V.ref))
  len : fs.length = 11
  md : ∀ i f, fs[i]? = some f → MadeL H' f (cl i) qC cells (decide (i ≠ 0))
  has : HasC H' cs
  all : ∀ y c, cells.lookup y = some c → ∃ v, cs.lookup c = some v
  inj : ∀ x y c, cells.lookup x = some c → cells.lookup y = some c → x = y
  vals : ∀ (j : Nat) (y : Str), nm3[j]? = some y → ∃ c v, cells.lookup y = some c ∧ [vg, vu, vn][j]? = some v ∧ cs.lookup c = some v
def spCalls (T : List NTab) : Sp := fun vs H Q _ => ∃ vg vu vn, vs = [vg, vu, vn] ∧ TabsN T H ∧ ∀ r H' fs cells cs, CallsR T H H' r fs cells cs vg vu vn → Q (.ref r) H'
section
variable {P : Program} {w : World} {K : PySem.W.Frag} {mg : Str → Option Value} {base : Heap}
theorem ok__law_calls (T : Txt K mg) {Ts : List NTab} (TB : TabB base mg (He.cT K ("_law_calls", none)).1 (He.cT K ("_law_calls", none)).2) (hm : ((He.cT K ("_law_calls", none)).2, fun _ _ => qC) ∈ Ts) (hu : ∀ p ∈ Ts, p.1 = (He.cT K ("_law_calls", none)).2 → p.2 = fun _ _ => qC) :
    Cal P w K mg base CX0 2 "_law_calls" (spCalls Ts) := by
  obtain ⟨fd, F, b⟩ := T.D__law_calls
  refine ⟨He.ga K "_law_calls", fd, p__law_calls, fnR (p := ("_law_calls", none)) (N := ["_law_grammar_here", "_law_given_here", "_law_name", "_law_calls_here"]) F sc__law_calls (fun vs H Q E h => ?_) fun A outer s H vs Q E hr h => ?_, T.g__law_calls, F.kp, b⟩
  · obtain ⟨_, _, _, rfl, _⟩ := h; rfl
  · obtain ⟨vg, vu, vn, rfl, ht, k⟩ := h
    refine ⟨_, psr_cons (ps_set (i := 3) sc__law_calls.nd rfl (.inl rfl) (pe_lst (pa_cons (pe_lamE0 (cl 0) rfl TB rfl hm rfl hu (lam_free (by decide)) rfl) (pa_cons (pe_lamE1 (cl 1) rfl TB rfl hm rfl hu (lam_free (by decide)) rfl rfl pe_int) pa_nil)))) <|
      psr_cons (ps_set (i := 3) sc__law_calls.nd rfl (.inl rfl) (pe_op op_cat (pv 3) (pe_lst (pa_cons (pe_lamE1 (cl 2) rfl TB rfl hm rfl hu (lam_free (by decide)) rfl rfl pe_int) pa_nil)))) <|
      psr_cons (ps_expr (pe_bmK K PySem.F.plainAttrs_list PySem.F.slot_list_append PySem.F.type_list_append mt_append (pv 3) (pa_cons (pe_lamE1 (cl 3) rfl TB rfl hm rfl hu (lam_free (by decide)) rfl rfl pe_int) pa_nil))) <|
      psr_cons (ps_set (i := 3) sc__law_calls.nd rfl (.inl rfl) (pe_op op_cat (pv 3) (pe_lst (pa_cons (pe_lamE1 (cl 4) rfl TB rfl hm rfl hu (lam_free (by decide)) rfl rfl pe_int) (pa_cons (pe_lamE1 (cl 5) rfl TB rfl hm rfl hu (lam_free (by decide)) rfl rfl pe_int) pa_nil))))) <|
      psr_cons (ps_set (i := 3) sc__law_calls.nd rfl (.inl rfl) (pe_op op_cat (pv 3) (pe_lst (pa_cons (pe_lamE1 (cl 6) rfl TB rfl hm rfl hu (lam_free (by decide)) rfl rfl pe_int) (pa_cons (pe_lamE1 (cl 7) rfl TB rfl hm rfl hu (lam_free (by decide)) rfl rfl pe_int) pa_nil))))) <|
      psr_cons (ps_set (i := 3) sc__law_calls.nd rfl (.inl rfl) (pe_op op_cat (pv 3) (pe_lst (pa_cons (pe_lamE1 (cl 8) rfl TB rfl hm rfl hu (lam_free (by decide)) rfl rfl pe_int) (pa_cons (pe_lamE1 (cl 9) rfl TB rfl hm rfl hu (lam_free (by decide)) rfl rfl pe_int) pa_nil))))) <|
      psr_ret (pe_op op_cat (pv 3) (pe_lst (pa_cons (pe_lamE1 (cl 10) rfl TB rfl hm rfl hu (lam_free (by decide)) rfl rfl pe_int) pa_nil))), ?_⟩
    have b0 : MB Ts (cellsFrom (s.heap.objs.size + 1) (defScope s__law_calls).names []) H [] H := ⟨ExtN.refl H, fun _ h => h, ht, fun i f h => by simp at h⟩
    -- calls = [.., ..]
    refine r_lst2 b0 rfl rfl fun f0 f1 p1 H1 b1 e1 h1 n1 => ?_
    -- calls = calls + [..]
    refine ⟨_, rfl, ?_⟩
    refine r_lst1 b1 rfl fun f2 q2 H2 b2 e2 h2 _ => r_cat (e2 _ _ h1 (fun _ z => nomatch z)) h2 b2 (by simp) fun p2 H3 b3 h3 n3 => ?_
    -- calls.append(..)
    refine ⟨_, rfl, .inl ⟨rfl, _, sq_of h3⟩, ?_⟩
    refine r_make b3 rfl fun f3 H4 b4 e4 => ⟨_, _, _, rfl, rfl, e4 _ _ h3 (fun _ z => nomatch z), by show 3 < sizeLine; decide, ?_⟩
    have b5 := b4.mut (l' := [V.ref f0, .ref f1] ++ [.ref f2] ++ [.ref f3]) (e4 _ _ h3 (fun _ z => nomatch z)) n3
    have h5 : upd H4 p2 (.lst ([V.ref f0, .ref f1] ++ [.ref f2] ++ [.ref f3])) p2 = some (.lst [V.ref f0, .ref f1, .ref f2, .ref f3]) := upd_same
    generalize upd H4 p2 (.lst ([V.ref f0, .ref f1] ++ [.ref f2] ++ [.ref f3])) = H5 at b5 h5 ⊢
    refine ⟨_, rfl, ?_⟩
    refine r_lst2 b5 rfl rfl fun f4 f5 q6 H6 b6 e6 h6 _ => r_cat (e6 _ _ h5 (fun _ z => nomatch z)) h6 b6 (by simp) fun p7 H7 b7 h7 _ => ?_
    refine ⟨_, rfl, ?_⟩
    refine r_lst2 b7 rfl rfl fun f6 f7 q8 H8 b8 e8 h8 _ => r_cat (e8 _ _ h7 (fun _ z => nomatch z)) h8 b8 (by simp) fun p9 H9 b9 h9 _ => ?_
    refine ⟨_, rfl, ?_⟩
    refine r_lst2 b9 rfl rfl fun f8 f9 q10 H10 b10 e10 h10 _ => r_cat (e10 _ _ h9 (fun _ z => nomatch z)) h10 b10 (by simp) fun p11 H11 b11 h11 _ => ?_
    refine ⟨_, rfl, ?_⟩
    refine r_lst1 b11 rfl fun f10 q12 H12 b12 e12 h12 _ => r_cat (e12 _ _ h11 (fun _ z => nomatch z)) h12 b12 (by simp) fun p13 H13 b13 h13 n13 => ?_
    obtain ⟨L, hL⟩ : ∃ L, L = s.heap.objs.size := ⟨_, rfl⟩
    have b13 : MB Ts (cellsFrom (s.heap.objs.size + 1) (defScope s__law_calls).names []) H [f0, f1, f2, f3, f4, f5, f6, f7, f8, f9, f10] H13 := b13
    rw [cells3, ← hL] at b13
    rw [cells3, ← hL]
    refine ⟨cs3 L vg vu vn, fun a v h => ?_, fun nc => k p13 _ [f0, f1, f2, f3, f4, f5, f6, f7, f8, f9, f10] (cells3L L) (cs3 L vg vu vn) ?_⟩
    · rcases cs3_mem h with ⟨rfl, rfl⟩ | ⟨rfl, rfl⟩ | ⟨rfl, rfl⟩
      · exact ⟨"_law_grammar_here", 0, by decide +kernel, rfl, rfl, rfl⟩
      · exact ⟨"_law_given_here", 1, by decide +kernel, rfl, rfl, rfl⟩
      · exact ⟨"_law_name", 2, by decide +kernel, rfl, rfl, rfl⟩
    · have ex : Ex H13 (putC H13 (cs3 L vg vu vn)) := fun a o h => putC_old nc h
      have b := b13.ext ex
      exact ⟨b.ex, b.fr, b.tb, n13, ex _ _ h13, rfl, b.md, fun a v h => .inl (putC_in h), cs3_all, cells3_inj, cs3_vals⟩
end
end K19

/-! ## K19Lr -/
set_option Elab.async false
set_option linter.all false
set_option maxRecDepth 100000
set_option maxHeartbeats 4000000
/-! the calls, told -/
namespace K19
open PySem PySem.Spec PyProof.Rows L2 Evl LamX NdefX
def parI : Nat → List Str
  | 1 => ["_law_a"]
  | 2 => ["_law_b"]
  | 3 => ["_law_c"]
  | 4 => ["_law_e"]
  | 5 => ["_law_f"]
  | 6 => ["_law_g"]
  | 7 => ["_law_h"]
  | 8 => ["_law_i"]
  | 9 => ["_law_j"]
  | 10 => ["_law_k"]
  | _ => []
def jsI : Nat → List Nat
  | 1 => [0, 2]
  | 2 => [0, 2]
  | 3 => [0, 1]
  | 4 => [0, 1, 2]
  | 8 => [0, 2]
  | 10 => [0, 2]
  | _ => [0]
def frI (i : Nat) : List Str := (jsI i).map fun j => nm3.getD j ""
def wsI (vg : V) (pu : Addr) (n : Str) (i : Nat) : List V := (jsI i).map fun j => [vg, .ref pu, .str n].getD j .non
noncomputable def outI (g : Gram) (ns : List Str) (n : Str) : Nat → Out
  | 0 => .ok (.list ((names g).map PyData.str))
  | 1 => .ok (.list ((sortLits (reachOf (gS g) (n, true))).map encLit))
  | 2 => .ok (optD encLit (chainOf (gS g) (n, true) (n, true)))
  | 3 => outC g ns (.ok (optD PyData.str (completeOf g (sortU ns))))
  | 4 => outC g ns (.ok (optD encLit (explainOf g (sortU ns) n)))
  | 5 => outS g (.ok (.list ((alwaysOf g).map PyData.str)))
  | 6 => outS g (.ok (.list ((groupsOf g).map fun l => .list (l.map PyData.str))))
  | 7 => outS g (.ok (.list ((redundantOf g).map PyData.int)))
  | 8 => outS g (.ok (optD encLit (impChainOf (gS g) ("needs", n, n))))
  | 9 => outS g (.ok (.list ((neverOf g).map PyData.str)))
  | _ => outS g (.ok (optD PyData.str (counterOf g ("excludes", n, n))))
section
variable {P : Program} {w : World} {K : PySem.W.Frag} {mg : Str → Option Value} {base : Heap} {vg : V} {pu : Addr} {g : Gram} {ns : List Str} {n : Str} {f c' : Addr} {q : Str} {cells : List (Str × Addr)} {dV : Value}
theorem run_I (T : Txt K mg) {i : Nat} (hi : i < 11) (h0 : decide (i ≠ 0) = false → dV = .none) (h1 : decide (i ≠ 0) = true → dV ≠ .none) :
    LamRun P w K mg base 10 f (LamS K f (LF.of (cl i) q cells c' dV) (parI i) (frI i) (wsI vg pu n i) vg pu g ns n (outI g ns n i)) := by
  match i, hi with
  | 0, _ =>
    have e := h0 (by decide)
    subst e
    exact run_0 T
  | 1, _ => exact run_1 T (h1 (by decide))
  | 2, _ => exact run_2 T (h1 (by decide))
  | 3, _ => exact run_3 T (h1 (by decide))
  | 4, _ => exact run_4 T (h1 (by decide))
  | 5, _ => exact run_5 T (h1 (by decide))
  | 6, _ => exact run_6 T (h1 (by decide))
  | 7, _ => exact run_7 T (h1 (by decide))
  | 8, _ => exact run_8 T (h1 (by decide))
  | 9, _ => exact run_9 T (h1 (by decide))
  | 10, _ => exact run_10 T (h1 (by decide))
/-- the made calls, as they stay -/
structure CallsK (H : Hp) (fs : List Addr) (cells : List (Str × Addr)) (cs : List (Addr × V)) (vg : V) (pu : Addr) (n : Str) : Prop where
  len : fs.length = 11
  md : ∀ i f, fs[i]? = some f → MadeL H f (cl i) qC cells (decide (i ≠ 0))
  has : HasC H cs
  all : ∀ y c, cells.lookup y = some c → ∃ v, cs.lookup c = some v
  inj : ∀ x y c, cells.lookup x = some c → cells.lookup y = some c → x = y
  vals : ∀ (j : Nat) (y : Str), nm3[j]? = some y → ∃ c v, cells.lookup y = some c ∧ [vg, .ref pu, .str n][j]? = some v ∧ cs.lookup c = some v
variable {H H' : Hp} {fs : List Addr} {cs : List (Addr × V)}
theorem CallsK.ff (h : CallsK H fs cells cs vg pu n) (e : ExF H H') : CallsK H' fs cells cs vg pu n := ⟨h.len, fun i f hf => (h.md i f hf).f e, fun a v q => by
  rcases h.has a v q with z | ⟨ob, z⟩
  · exact .inl (e _ _ True.intro z)
  · exact .inr ⟨ob, e _ _ True.intro z⟩, h.all, h.inj, h.vals⟩
def look3 (i : Nat) : Bool := (frI i).all (fun y => decide ((y, NameKind.free) ∈ (lamS (cl i)).names)) && (jsI i).all fun j => decide (j < 3)
theorem look3_ok : ∀ i, i < 11 → look3 i = true := by decide +kernel
theorem free3_at {i : Nat} (hi : i < 11) : ∀ y ∈ (lamS (cl i)).names, y.2 = .free → y.1 ∈ nm3 := fun y hy e => by
  have h := List.all_eq_true.mp (free3_ok i hi) y hy
  simp only [e, decide_true, Bool.not_true, Bool.false_or, decide_eq_true_eq] at h
  exact h
theorem par_len (i : Nat) (hi : i < 11) : (decide (i ≠ 0) = false → (parI i).length = 0) ∧ (decide (i ≠ 0) = true → (parI i).length = 1) := by
  match i, hi with
  | 0, _ => exact ⟨fun _ => rfl, (fun z => nomatch z)⟩
  | 1, _ => exact ⟨(fun z => nomatch z), fun _ => rfl⟩
  | 2, _ => exact ⟨(fun z => nomatch z), fun _ => rfl⟩
  | 3, _ => exact ⟨(fun z => nomatch z), fun _ => rfl⟩
  | 4, _ => exact ⟨(fun z => nomatch z), fun _ => rfl⟩
  | 5, _ => exact ⟨(fun z => nomatch z), fun _ => rfl⟩
  | 6, _ => exact ⟨(fun z => nomatch z), fun _ => rfl⟩
  | 7, _ => exact ⟨(fun z => nomatch z), fun _ => rfl⟩
  | 8, _ => exact ⟨(fun z => nomatch z), fun _ => rfl⟩
  | 9, _ => exact ⟨(fun z => nomatch z), fun _ => rfl⟩
  | 10, _ => exact ⟨(fun z => nomatch z), fun _ => rfl⟩
theorem CallsK.lam (h : CallsK H fs cells cs vg pu n) {i : Nat} (hi : i < 11) (hf : fs[i]? = some f) : ∃ c' dV vs, (decide (i ≠ 0) = false → dV = .none) ∧ (decide (i ≠ 0) = true → dV ≠ .none) ∧ vs.length = (parI i).length ∧
    LamT H f (LF.of (cl i) qC cells c' dV) (frI i) (wsI vg pu n i) cs vs := by
  obtain ⟨c', dV, vs, h1, h2, h3, h4, h5⟩ := h.md i f hf
  have hfree : ∀ y ∈ (lamS (cl i)).names, y.2 = .free → ∃ c, cells.lookup y.1 = some c := fun y hy e => by
    obtain ⟨j, hj⟩ := List.mem_iff_getElem?.mp (free3_at hi y hy e)
    obtain ⟨c, v, k1, _⟩ := h.vals j y.1 hj
    exact ⟨c, k1⟩
  have lk := look3_ok i hi
  unfold look3 at lk
  simp only [Bool.and_eq_true, List.all_eq_true, decide_eq_true_eq] at lk
  obtain ⟨lk1, lk2⟩ := lk
  have hl : vs.length = (parI i).length := by
    cases q : decide (i ≠ 0) with
    | false => rw [(h4 q).2, (par_len i hi).1 q]; rfl
    | true => rw [(h5 q).2, (par_len i hi).2 q]
  refine ⟨c', dV, vs, fun q => (h4 q).1, fun q => (h5 q).1, hl, ⟨h1, h2, h.has, fun y c e => h.all y c (clo_cm hfree e), fun x y c e1 e2 => h.inj x y c (clo_cm hfree e1) (clo_cm hfree e2), fun k y hk => ?_, by unfold wsI frI; simp, h3⟩⟩
  have hm : y ∈ frI i := List.mem_of_getElem? hk
  unfold frI at hk
  rw [List.getElem?_map] at hk
  cases hj : (jsI i)[k]? with
  | none => rw [hj] at hk; cases hk
  | some j =>
    rw [hj] at hk
    have hy : nm3.getD j "" = y := Option.some.inj hk
    have hj3 : j < 3 := lk2 j (List.mem_of_getElem? hj)
    have hn : nm3[j]? = some y := by
      rw [← hy, List.getD_eq_getElem?_getD]
      have : j < nm3.length := hj3
      rw [List.getElem?_eq_getElem this]
      rfl
    obtain ⟨c, v, k1, k2, k3⟩ := h.vals j y hn
    refine ⟨c, v, clo_has hfree (lk1 y hm) k1, ?_, k3⟩
    unfold wsI
    rw [List.getElem?_map, hj]
    show some ([vg, .ref pu, .str n].getD j .non) = some v
    rw [List.getD_eq_getElem?_getD, k2]
    rfl
theorem ok_nd (d : PyData) : ∀ kvs, Out.ok d ≠ .dict kvs := fun _ z => nomatch z
theorem out_nd {o : Out} (g : Gram) (ns : List Str) (h : ∀ kvs, o ≠ .dict kvs) : (∀ kvs, outS g o ≠ .dict kvs) ∧ ∀ kvs, outC g ns o ≠ .dict kvs := by
  have a : ∀ o : Out, (∀ kvs, o ≠ .dict kvs) → ∀ kvs, outS g o ≠ .dict kvs := fun o h kvs z => by
    unfold outS at z
    split at z
    · exact h _ z
    · cases z
  refine ⟨a o h, a _ fun kvs z => ?_⟩
  split at z
  · exact h _ z
  · cases z
theorem outI_nd (i : Nat) : ∀ kvs, outI g ns n i ≠ .dict kvs := by
  match i with
  | 0 => exact fun _ z => nomatch z
  | 1 => exact fun _ z => nomatch z
  | 2 => exact fun _ z => nomatch z
  | 3 => exact (out_nd g ns (ok_nd _)).2
  | 4 => exact (out_nd g ns (ok_nd _)).2
  | 5 => exact (out_nd g ns (ok_nd _)).1
  | 6 => exact (out_nd g ns (ok_nd _)).1
  | 7 => exact (out_nd g ns (ok_nd _)).1
  | 8 => exact (out_nd g ns (ok_nd _)).1
  | 9 => exact (out_nd g ns (ok_nd _)).1
  | _ + 10 => exact (out_nd g ns (ok_nd _)).1
theorem told_call (T : Txt K mg) (hk : CallsK H fs cells cs vg pu n) (le : LEnv K H vg pu g ns n) {i : Nat} (hi : i < 11) (hf : fs[i]? = some f) {Q : VK} {E : XK} (h : ∀ v H', Ex H H' → frN K H 2 H' v (toldD (outI g ns n i)) → Q v H') : spTold P w K mg base 10 [.ref f] H Q E := by
  obtain ⟨c', dV, vs, d0, d1, hl, L⟩ := hk.lam hi hf
  exact ⟨f, _, _, rfl, L.fn, run_I T hi d0 d1, vs, cs, hl, L, le, spOut_told (fun v H' e _ r => h v H' e r) fun kvs z => absurd z (outI_nd i kvs)⟩
end
/-! ### how deep the data are -/
def lev : Nat → PyData → Prop
  | 0 => fun d => ∃ v, atomV v d
  | m + 1 => fun d => (∃ v, atomV v d) ∨ ∃ ds, (d = .list ds ∨ d = .tuple ds) ∧ ∀ x ∈ ds, lev m x
theorem lev_up : ∀ m d, lev m d → lev (m + 1) d
  | 0, _, h => .inl h
  | m + 1, _, h => h.elim .inl fun ⟨ds, h1, h2⟩ => .inr ⟨ds, h1, fun x hx => lev_up m x (h2 x hx)⟩
theorem lev_str (m : Nat) (z : Str) : lev m (.str z) := by cases m <;> first | exact ⟨.str z, rfl⟩ | exact .inl ⟨.str z, rfl⟩
theorem lev_int (m : Nat) (z : Int) : lev m (.int z) := by cases m <;> first | exact ⟨.int z, rfl⟩ | exact .inl ⟨.int z, rfl⟩
theorem lev_bool (m : Nat) (z : Bool) : lev m (.bool z) := by cases m <;> first | exact ⟨.bl z, rfl⟩ | exact .inl ⟨.bl z, rfl⟩
theorem lev_none (m : Nat) : lev m .none := by cases m <;> first | exact ⟨.non, True.intro⟩ | exact .inl ⟨.non, True.intro⟩
theorem lev_list {m : Nat} {ds : List PyData} (h : ∀ x ∈ ds, lev m x) : lev (m + 1) (.list ds) := .inr ⟨ds, .inl rfl, h⟩
theorem lev_tuple {m : Nat} {ds : List PyData} (h : ∀ x ∈ ds, lev m x) : lev (m + 1) (.tuple ds) := .inr ⟨ds, .inr rfl, h⟩
theorem lev_lit (m : Nat) (l : Lit) : lev (m + 1) (encLit l) := lev_tuple fun x hx => by
  simp at hx
  rcases hx with rfl | rfl
  · exact lev_str m _
  · exact lev_bool m _
theorem lev_mapS (m : Nat) (l : List Str) : lev (m + 1) (.list (l.map PyData.str)) := lev_list fun x hx => by
  obtain ⟨y, _, rfl⟩ := List.mem_map.mp hx
  exact lev_str m y
theorem lev_mapI (m : Nat) (l : List Int) : lev (m + 1) (.list (l.map PyData.int)) := lev_list fun x hx => by
  obtain ⟨y, _, rfl⟩ := List.mem_map.mp hx
  exact lev_int m y
theorem lev_mapL (m : Nat) (l : List Lit) : lev (m + 2) (.list (l.map encLit)) := lev_list fun x hx => by
  obtain ⟨y, _, rfl⟩ := List.mem_map.mp hx
  exact lev_lit m y
theorem lev_mapT (m : Nat) (l : List Lit) : lev (m + 2) (.tuple (l.map encLit)) := lev_tuple fun x hx => by
  obtain ⟨y, _, rfl⟩ := List.mem_map.mp hx
  exact lev_lit m y
theorem lev_optL (m : Nat) (o : Option (List Lit)) : lev (m + 2) (optD encLit o) := by
  cases o with
  | none => exact lev_none _
  | some l => exact lev_mapL m l
theorem lev_optS (m : Nat) (o : Option (List Str)) : lev (m + 1) (optD PyData.str o) := by
  cases o with
  | none => exact lev_none _
  | some l => exact lev_mapS m l
theorem lev_unsat (m : Nat) : lev (m + 1) (toldD .unsat) := lev_tuple fun x hx => by
  simp at hx
  rcases hx with rfl | rfl <;> exact lev_str m _
theorem lev_conf (m : Nat) (c : List Lit) : lev (m + 3) (toldD (.conf c)) := lev_tuple fun x hx => by
  simp at hx
  rcases hx with rfl | rfl | rfl
  · exact lev_str _ _
  · exact lev_str _ _
  · exact lev_mapT m c
theorem lev_outS {g : Gram} {o : Out} (h : lev 3 (toldD o)) : lev 3 (toldD (outS g o)) := by
  unfold outS
  split
  · exact h
  · exact lev_unsat 2
theorem lev_outC {g : Gram} {ns : List Str} {o : Out} (h : lev 3 (toldD o)) : lev 3 (toldD (outC g ns o)) := by
  refine lev_outS ?_
  split
  · exact h
  · exact lev_conf 0 _
theorem lev_outI (g : Gram) (ns : List Str) (n : Str) (i : Nat) : lev 3 (toldD (outI g ns n i)) := by
  match i with
  | 0 => exact lev_mapS 2 _
  | 1 => exact lev_mapL 1 _
  | 2 => exact lev_optL 1 _
  | 3 => exact lev_outC (lev_optS 2 _)
  | 4 => exact lev_outC (lev_optL 1 _)
  | 5 => exact lev_outS (lev_mapS 2 _)
  | 6 =>
    refine lev_outS (lev_list fun x hx => ?_)
    obtain ⟨y, _, rfl⟩ := List.mem_map.mp hx
    exact lev_mapS 1 y
  | 7 => exact lev_outS (lev_mapI 2 _)
  | 8 => exact lev_outS (lev_optL 1 _)
  | 9 => exact lev_outS (lev_mapS 2 _)
  | _ + 10 => exact lev_outS (lev_optS 2 _)
theorem atom_at {K : PySem.W.Frag} {H : Hp} {v u : V} {d : PyData} (h : Dp K H v d) (a : atomV u d) : atomV v d := by
  cases h with
  | non => exact True.intro
  | bl b => exact rfl
  | int i => exact rfl
  | str x => exact rfl
  | lst h1 h2 => cases u <;> exact a.elim
  | tup h1 h2 => cases u <;> exact a.elim
mutual
theorem lev_dp {K : PySem.W.Frag} {H : Hp} : ∀ (m : Nat) {v : V} {d : PyData}, Dp K H v d → lev m d → dpN K m H v d
  | 0, _, _, h, ⟨u, a⟩ => atom_at h a
  | m + 1, _, _, h, l => by
    rcases l with ⟨u, a⟩ | ⟨ds, e, l⟩
    · exact .inl (atom_at h a)
    · rcases e with rfl | rfl
      · cases h with
        | lst h1 h2 => exact .inr (.inl ⟨ds, _, _, rfl, rfl, h1, lev_dpa m h2 l⟩)
      · cases h with
        | tup h1 h2 => exact .inr (.inr ⟨ds, _, _, rfl, rfl, h1, lev_dpa m h2 l⟩)
theorem lev_dpa {K : PySem.W.Frag} {H : Hp} (m : Nat) : ∀ {vs : List V} {ds : List PyData}, DpAll K H vs ds → (∀ x ∈ ds, lev m x) → LR (dpN K m) H vs ds
  | _, _, .nil, _ => .nil
  | _, _, .cons h1 h2, l => .cons (lev_dp m h1 (l _ List.mem_cons_self)) (lev_dpa m h2 fun x hx => l x (List.mem_cons_of_mem _ hx))
end
theorem lr_mem {α : Type} {R S : DR α} {H : Hp} : ∀ {xs : List V} {as : List α}, LR R H xs as → (∀ v a, a ∈ as → R H v a → S H v a) → LR S H xs as
  | _, _, .nil, _ => .nil
  | _, _, .cons r t, h => .cons (h _ _ List.mem_cons_self r) (lr_mem t fun v a ha => h v a (List.mem_cons_of_mem _ ha))
theorem lev_fr {K : PySem.W.Frag} {H0 H : Hp} : ∀ (k m : Nat) {v : V} {d : PyData}, frN K H0 k H v d → lev m d → dpN K m H v d
  | 0, m, _, _, h, l => lev_dp m h.1 l
  | k + 1, m, _, _, h, l => by
    rcases h with h | ⟨ds, rfl, p, xs, rfl, h0, h1, h2⟩
    · exact lev_dp m h.1 l
    · cases m with
      | zero =>
        obtain ⟨u, a⟩ := l
        cases u <;> exact a.elim
      | succ m =>
        rcases l with ⟨u, a⟩ | ⟨ds', e, l⟩
        · cases u <;> exact a.elim
        · rcases e with e | e
          · cases e
            exact .inr (.inl ⟨ds, p, xs, rfl, rfl, sq_of h1, lr_mem h2 fun v a ha r => lev_fr k m r (l a ha)⟩)
          · cases e
end K19

/-! ## K19Ls -/
set_option Elab.async false
set_option linter.all false
set_option maxRecDepth 100000
set_option maxHeartbeats 4000000
/-! a call in whose time the running frame's own cells are tracked, locked -/
namespace K19
open PySem PySem.Spec PyProof.Rows L2 Evl LamX NdefX
/-- H2 is H1 and the cells -/
structure PutF (H1 H2 : Hp) (cs : List (Addr × V)) : Prop where
  out : ∀ a, cs.lookup a = none → H2 a = H1 a
  has : HasC H2 cs
  no : NoC H1 cs
abbrev cs2 (c1 c2 : Addr) (v1 v2 : V) : List (Addr × V) := [(c1, v1), (c2, v2)]
theorem cs2_mem {c1 c2 a : Addr} {v1 v2 v : V} (h : (cs2 c1 c2 v1 v2).lookup a = some v) : (a = c1 ∧ v = v1) ∨ (a = c2 ∧ v = v2) := by
  have m := lkN h
  simpa using m
theorem cs2_0 {c1 c2 : Addr} {v1 v2 : V} : (cs2 c1 c2 v1 v2).lookup c1 = some v1 := by
  show (match (c1 == c1) with | true => some v1 | false => _) = _
  rw [beq_self_eq_true]
theorem cs2_1 {c1 c2 : Addr} {v1 v2 : V} (ne : c1 ≠ c2) : (cs2 c1 c2 v1 v2).lookup c2 = some v2 := by
  show (match (c2 == c1) with | true => some v1 | false => (match (c2 == c2) with | true => some v2 | false => _)) = _
  rw [beq_self_eq_true, show (c2 == c1) = false from beq_eq_false_iff_ne.mpr (Ne.symm ne)]
theorem cs2_none {c1 c2 a : Addr} {v1 v2 : V} (h1 : a ≠ c1) (h2 : a ≠ c2) : (cs2 c1 c2 v1 v2).lookup a = none := by
  show (match (a == c1) with | true => some v1 | false => (match (a == c2) with | true => some v2 | false => none)) = _
  rw [show (a == c1) = false from beq_eq_false_iff_ne.mpr h1, show (a == c2) = false from beq_eq_false_iff_ne.mpr h2]
section
variable {X : Cx} {pins : List (Addr × Obj)} {σ : L2.St} {H : Hp} {s : Shared}
/-- what a slot's cell holds -/
theorem slot_cell (I : Inv X pins σ H s) {y : Str} {c : Addr} {i : Nat} {v : V} (hc : X.env.cells.lookup y = some c) (hN : X.N[i]? = some y) (hk : X.env.scope.names.lookup y = some .cell) (hσ : σ[i]? = some (some v)) : ∃ (u : Value) (ob : Obj), RelV v u ∧ s.heap.get? c = some ob ∧ ob.data = .cell (some u) := by
  obtain ⟨m, hn, hl⟩ := I.loc
  obtain ⟨u, r, l⟩ := hl i y v hN hσ (.inr (.inl hk))
  rcases l with ⟨z, _⟩ | ⟨_, c', hc', ob, ho, hd⟩
  · have z' : X.env.scope.names.lookup y = some .local := z
    rw [hk] at z'
    cases z'
  · rw [hc] at hc'
    cases hc'
    exact ⟨u, ob, r, ho, hd⟩
/-- x(e): x a def that lets nothing out -/
theorem pe_callC {k j : Nat} {x : Str} {sp : Sp} {e : Expr} {te : TE} {c1 c2 : Addr} {i1 i2 : Nat} {y1 y2 : Str} {p pos : Pos} (c : Cal X.prog X.w X.K X.mg X.base CX0 k x sp) (hr : Room j X.A) (hk : k ≤ j) (hg : Gl X x) (he : PE X e te)
    (h1 : X.env.cells.lookup y1 = some c1) (h2 : X.env.cells.lookup y2 = some c2) (ne : c1 ≠ c2) (hN1 : X.N[i1]? = some y1) (hN2 : X.N[i2]? = some y2) (hk1 : X.env.scope.names.lookup y1 = some .cell) (hk2 : X.env.scope.names.lookup y2 = some .cell) (hf : ∀ y, X.fn y = true)
    (hdb : (x == ("__debug__" : Str)) = false := by decide) (hst : starEach [e] X.env = (false, eval e X.env) :: starEach [] X.env := by rfl) (hpl : (backTo pos (starEach [] X.env)).any (·.1) = false := by rfl) :
    PE X (.Call (.Name x p) [e] [] pos) (fun σ H Q => te σ H fun v H1 => ∃ v1 v2, σ[i1]? = some (some v1) ∧ σ[i2]? = some (some v2) ∧ ∀ H2, PutF H1 H2 (cs2 c1 c2 v1 v2) → sp [v] H2 (fun u H' => Q u (takC H' (cs2 c1 c2 v1 v2))) C8.E0) := by
  obtain ⟨f, fd, ps, F, hm, kp, b⟩ := c.ex
  refine ⟨fun pins s σ H Q I h => ?_⟩
  refine wpAny_Call_Name_kw (ld_glob I hg hm ?_ hdb)
  obtain ⟨G, hG⟩ : ∃ G : V → Hp → Prop, G = fun v H1 => ∃ v1 v2, σ[i1]? = some (some v1) ∧ σ[i2]? = some (some v2) ∧ ∀ H2, PutF H1 H2 (cs2 c1 c2 v1 v2) → sp [v] H2 (fun u H' => Q u (takC H' (cs2 c1 c2 v1 v2))) C8.E0 := ⟨_, rfl⟩
  have h : te σ H G := by rw [hG]; exact h
  have h0 : tCons te tNil σ H (fun vs H1 => match vs with
    | [v] => G v H1
    | _ => False) := h
  refine PySem.W.callWith_K (h₀ := X.base) I.ok.mod.kin kp (thn ((pa_cons he pa_nil hst).run pos pins s σ H _ I h0) fun us s1 ⟨vs, H1, I1, r, q⟩ => ⟨I1.kIn, ?_⟩) hst hpl
  match vs, q with
  | [v], q =>
    have q : G v H1 := q
    rw [hG] at q
    obtain ⟨v1, v2, hs1, hs2, q⟩ := q
    obtain ⟨u1, o1, r1, g1, d1⟩ := slot_cell I1 h1 hN1 hk1 hs1
    obtain ⟨u2, o2, r2, g2, d2⟩ := slot_cell I1 h2 hN2 hk2 hs2
    have n1 : H1 c1 = none := I1.freeC _ _ h1
    have n2 : H1 c2 = none := I1.freeC _ _ h2
    obtain ⟨H2, hH2⟩ : ∃ H2 : Hp, H2 = fun a => if a = c1 then some (.frz o1 (CellO c1 v1)) else if a = c2 then some (.frz o2 (CellO c2 v2)) else H1 a := ⟨_, rfl⟩
    have e1 : H2 c1 = some (.frz o1 (CellO c1 v1)) := by rw [hH2]; exact if_pos rfl
    have e2 : H2 c2 = some (.frz o2 (CellO c2 v2)) := by rw [hH2]; exact (if_neg (Ne.symm ne)).trans (if_pos rfl)
    have e3 : ∀ a, a ≠ c1 → a ≠ c2 → H2 a = H1 a := fun a z1 z2 => by rw [hH2]; exact (if_neg z1).trans (if_neg z2)
    have old : ∀ a o, H1 a = some o → H2 a = some o := fun a o z => by
      have z1 : a ≠ c1 := fun y => by
        rw [y, n1] at z
        cases z
      have z2 : a ≠ c2 := fun y => by
        rw [y, n2] at z
        cases z
      rw [e3 a z1 z2]
      exact z
    have pf : PutF H1 H2 (cs2 c1 c2 v1 v2) := by
      refine ⟨fun a z => ?_, fun a v z => ?_, fun a v z => ?_⟩
      · refine e3 a (fun y => ?_) fun y => ?_
        · rw [y, cs2_0] at z
          cases z
        · rw [y, cs2_1 ne] at z
          cases z
      · rcases cs2_mem z with ⟨rfl, rfl⟩ | ⟨rfl, rfl⟩
        · exact .inr ⟨o1, e1⟩
        · exact .inr ⟨o2, e2⟩
      · rcases cs2_mem z with ⟨rfl, rfl⟩ | ⟨rfl, rfl⟩
        · exact n1
        · exact n2
    have hok2 : HOk X.prog X.w H2 s1.heap := fun a o z => by
      by_cases y1 : a = c1
      · subst y1
        rw [e1] at z
        cases z
        exact ⟨g1, cell_ok ⟨u1, r1, o1, g1, d1⟩⟩
      · by_cases y2 : a = c2
        · subst y2
          rw [e2] at z
          cases z
          exact ⟨g2, cell_ok ⟨u2, r2, o2, g2, d2⟩⟩
        · rw [e3 a y1 y2] at z
          exact (I1.hok a o z).stay (fun _ _ _ q => q) (fun b q => old _ _ q) fun b xs q => old _ _ q
    have ab1 := I1.ok.cab _ _ (hf _) h1
    have ab2 := I1.ok.cab _ _ (hf _) h2
    have E := I1.env0
    have low : ∀ b, b < X.s_0.heap.objs.size → b ≠ c1 ∧ b ≠ c2 := fun b hb => ⟨fun y => absurd (Nat.lt_of_lt_of_le (y ▸ hb) ab1) (Nat.lt_irrefl _), fun y => absurd (Nat.lt_of_lt_of_le (y ▸ hb) ab2) (Nat.lt_irrefl _)⟩
    have E2 : Env0 X.prog X.w X.K X.mg X.base X.A X.stack s1 H2 := { E with
      bs := fun b o z => by
        obtain ⟨z1, z2⟩ := low b (Nat.lt_of_lt_of_le (Heap.lt_size z) I1.ok.bsz)
        exact ⟨(E.bs b o z).1, by rw [e3 b z1 z2]; exact (E.bs b o z).2⟩
      frf := fun b z => by
        have z0 : b ≠ c1 ∧ b ≠ c2 := by
          rcases List.mem_cons.mp (I1.stkSub b z) with y | y
          · exact ⟨fun q => I1.cne _ _ h1 (q.symm.trans y), fun q => I1.cne _ _ h2 (q.symm.trans y)⟩
          · obtain ⟨_, o, ho, _⟩ := I1.ok.funs.mem y
            exact low b (Heap.lt_size ho)
        rw [e3 b z0.1 z0.2]
        exact E.frf b z
      hok := hok2 }
    have hl : us.length = ps.length := by
      rw [← r.length]
      exact F.len _ _ _ _ (q H2 pf)
    have hb := b s1 us I1.kIn (by rw [List.append_nil]; exact hl)
    rw [List.append_nil] at hb
    refine wpAny_call (codeAny_mono (F.run X.A X.stack s1 H2 ⟨us, []⟩ us [v] _ _ (hr.mono hk) E2 hb r (q H2 pf)) fun res s2 hq => ?_)
    cases res with
    | error er => exact (show False from hq).elim
    | ok fl =>
      cases fl with
      | next => exact False.elim hq
      | brk => exact False.elim hq
      | cont => exact False.elim hq
      | ret u =>
        obtain ⟨w', H', os, bare, un, hok, rv, qq⟩ := hq
        have k1 : H' c1 = some (.frz o1 (CellO c1 v1)) := un.frzs _ _ _ e1
        have k2 : H' c2 = some (.frz o2 (CellO c2 v2)) := un.frzs _ _ _ e2
        have hc : HasC H' (cs2 c1 c2 v1 v2) := fun a v z => by
          rcases cs2_mem z with ⟨rfl, rfl⟩ | ⟨rfl, rfl⟩
          · exact .inr ⟨o1, k1⟩
          · exact .inr ⟨o2, k2⟩
        have cellK : ∀ b o, s1.heap.get? b = some o → (b = c1 ∨ b = c2) → s2.heap.get? b = some o := fun b o z y => by
          rcases y with rfl | rfl
          · rw [g1] at z
            cases z
            exact (hok _ _ k1).1
          · rw [g2] at z
            cases z
            exact (hok _ _ k2).1
        have at2 : ∀ b, ¬ (b = c1 ∨ b = c2) → H2 b = H1 b ∧ takC H' (cs2 c1 c2 v1 v2) b = H' b := fun b z => by
          have z1 : b ≠ c1 := fun y => z (.inl y)
          have z2 : b ≠ c2 := fun y => z (.inr y)
          exact ⟨e3 b z1 z2, takC_out (cs2_none z1 z2)⟩
        have tk : ∀ b, (b = c1 ∨ b = c2) → takC H' (cs2 c1 c2 v1 v2) b = none := fun b z => by
          rcases z with rfl | rfl
          · exact takC_in cs2_0
          · exact takC_in (cs2_1 ne)
        have nt : ∀ b o, H1 b = some o → ¬ (b = c1 ∨ b = c2) := fun b o z y => by
          rcases y with rfl | rfl
          · rw [n1] at z; cases z
          · rw [n2] at z; cases z
        have un' : Un (frs X.stack) [] H1 (takC H' (cs2 c1 c2 v1 v2)) s1.heap s2.heap := by
          refine ⟨fun b o z n hb hx => ?_, fun b o z n hb hx => ?_, fun b o z n hx => ?_, un.there, fun b xs z => ?_, fun b o xs z => ?_, fun b qs z => ?_⟩
          · by_cases y : b = c1 ∨ b = c2
            · exact cellK b o z y
            · exact un.keep b o z (by rw [(at2 b y).1]; exact n) hb hx
          · by_cases y : b = c1 ∨ b = c2
            · exact ⟨o.slots, cellK b o z y⟩
            · exact un.slot b o z (by rw [(at2 b y).1]; exact n) hb hx
          · by_cases y : b = c1 ∨ b = c2
            · exact tk b y
            · rw [(at2 b y).2]
              exact un.free b o z (by rw [(at2 b y).1]; exact n) hx
          · rw [(at2 b (nt b _ z)).2]
            exact un.tups b xs (old _ _ z)
          · rw [(at2 b (nt b _ z)).2]
            exact un.frzs b o xs (old _ _ z)
          · rw [(at2 b (nt b _ z)).2]
            exact un.tbls b qs (old _ _ z)
        exact ⟨w', _, I1.call' os un' (hok_del hok hc) bare (fun b z => absurd z (by simp)), rv, qq⟩
end
end K19

/-! ## K19Lt -/
set_option Elab.async false
set_option linter.all false
set_option maxRecDepth 100000
set_option maxHeartbeats 4000000
/-! what the loop changes, what it leaves; the law's own lambdas -/
namespace K19
open PySem PySem.Spec PyProof.Rows L2 Evl LamX NdefX
/-! ### everything but lists stays -/
def ExQ (H H' : Hp) : Prop := ∀ a o, (∀ l, o ≠ .lst l) → H a = some o → H' a = some o
theorem ExQ.of {H H' : Hp} (e : Ex H H') : ExQ H H' := fun a o _ h => e a o h
theorem ExQ.trans {H H1 H2 : Hp} (a : ExQ H H1) (b : ExQ H1 H2) : ExQ H H2 := fun c o n h => b c o n (a c o n h)
theorem ExQ.f {H H' : Hp} (e : ExQ H H') : ExF H H' := fun a o f h => e a o (fun l z => by subst z; exact f) h
theorem ExQ.tab {H H' : Hp} {T : List NTab} (e : ExQ H H') (t : TabsN T H) : TabsN T H' := fun p hp => by
  obtain ⟨ps, h1, h2, h3⟩ := t p hp
  refine ⟨ps, e _ _ (fun l z => by cases z) h1, h2, fun pos cv hc => ?_⟩
  obtain ⟨c, e1, e2⟩ := h3 pos cv hc
  exact ⟨c, e1, e _ _ (fun l z => by unfold CodeO at z; cases z) e2⟩
theorem ExQ.b {K : PySem.W.Frag} {d : Addr} {S : Addr × List Int} {H H' : Hp} (h : Dice K d S H) (e : ExB d H H') : ExQ H H' := fun a o n q => by
  obtain ⟨l, hl⟩ := h.lst
  refine e a o (fun z => ?_) q
  rw [z, hl] at q
  exact n l (Option.some.inj q).symm
/-! ### the loop -/
/-- a datum without lists, no list itself -/
def flt (K : PySem.W.Frag) (H : Hp) (y : V) : Prop := (∃ d, Dp K H y d ∧ noL d = true) ∧ ∀ a l, y = .ref a → H a ≠ some (.lst l)
def G1 (K : PySem.W.Frag) (M : Addr → Prop) (c : Nat) (H : Hp) (y : V) : Prop := flt K H y ∨ ∃ q l, y = .ref q ∧ M q ∧ H q = some (.lst l) ∧ l.length ≤ c ∧ ∀ z ∈ l, flt K H z
def G2 (K : PySem.W.Frag) (M : Addr → Prop) (c : Nat) (H : Hp) (y : V) : Prop := flt K H y ∨ ∃ q l, y = .ref q ∧ M q ∧ H q = some (.lst l) ∧ l.length ≤ c ∧ ∀ z ∈ l, G1 K M c H z
/-- lists in it are short -/
def sh2 (c : Nat) (d : PyData) : Prop := ∀ ds, d = .list ds → ds.length ≤ c ∧ ∀ x ∈ ds, ∀ es, x = .list es → es.length ≤ c
/-- lists at M may be others -/
structure RelM (M : Addr → Prop) (H H' : Hp) : Prop where
  go : ∀ a o, H a = some o → H' a = some o ∨ (M a ∧ (∃ l, o = .lst l) ∧ ∃ l', H' a = some (.lst l'))
section
variable {K : PySem.W.Frag} {M : Addr → Prop} {H H' H0 : Hp} {y : V} {p : Addr} {l : List V}
theorem RelM.refl : RelM M H H := ⟨fun a o h => .inl h⟩
theorem RelM.upd (r : RelM M H0 H) (hp : H p = some (.lst l)) (m : M p) (l' : List V) : RelM M H0 (upd H p (.lst l')) := ⟨fun a o h => by
  by_cases e : a = p
  · subst e
    rcases r.go a o h with z | ⟨_, ⟨l1, z⟩, _⟩
    · rw [hp] at z
      exact .inr ⟨m, ⟨l, (Option.some.inj z).symm⟩, l', upd_same⟩
    · exact .inr ⟨m, ⟨l1, z⟩, l', upd_same⟩
  · rw [upd_ne e]
    exact r.go a o h⟩
theorem RelM.q (r : RelM M H H') : ExQ H H' := fun a o n h => (r.go a o h).elim id fun ⟨_, ⟨l, z⟩, _⟩ => absurd z (n l)
theorem RelM.out (r : RelM M H H') (m : ¬ M p) {o : HO} (h : H p = some o) : H' p = some o := (r.go p o h).elim id fun ⟨z, _⟩ => absurd z m
theorem ext_lst (hp : H p = some (.lst l)) (l' : List V) : ExT H (upd H p (.lst l')) := ⟨fun b xs h => by rw [upd_ne (ne_of h hp (fun z => by cases z))]; exact h, fun b o xs h => by rw [upd_ne (ne_of h hp (fun z => by cases z))]; exact h⟩
theorem flt_str (z : Str) : flt K H (.str z) := ⟨⟨.str z, .str z, rfl⟩, fun a l e => nomatch e⟩
theorem flt_upd (hp : H p = some (.lst l)) (l' : List V) (h : flt K H y) : flt K (upd H p (.lst l')) y := by
  obtain ⟨⟨d, h1, h2⟩, h3⟩ := h
  refine ⟨⟨d, dp_x (ext_lst hp l') h1 h2, h2⟩, fun a m e q => ?_⟩
  by_cases z : a = p
  · exact h3 a l e (by rw [z]; exact hp)
  · rw [upd_ne z] at q
    exact h3 a m e q
theorem G1_le {c c' : Nat} (h : c ≤ c') (g : G1 K M c H y) : G1 K M c' H y := g.elim .inl fun ⟨q, l, h1, h2, h3, h4, h5⟩ => .inr ⟨q, l, h1, h2, h3, Nat.le_trans h4 h, h5⟩
theorem G2_le {c c' : Nat} (h : c ≤ c') (g : G2 K M c H y) : G2 K M c' H y := g.elim .inl fun ⟨q, l, h1, h2, h3, h4, h5⟩ => .inr ⟨q, l, h1, h2, h3, Nat.le_trans h4 h, fun z hz => G1_le h (h5 z hz)⟩
/-- any list grows by a text -/
theorem G1_app {c : Nat} (hp : H p = some (.lst l)) (z : Str) (h : G1 K M c H y) : G1 K M (c + 1) (upd H p (.lst (l ++ [.str z]))) y := by
  rcases h with h | ⟨q, m, e, hm, hq, hc, hi⟩
  · exact .inl (flt_upd hp _ h)
  · by_cases k : q = p
    · subst k
      rw [hp] at hq
      cases hq
      refine .inr ⟨q, _, e, hm, upd_same, by rw [List.length_append]; exact Nat.succ_le_succ hc, fun x hx => ?_⟩
      rcases List.mem_append.mp hx with hx | hx
      · exact flt_upd hp _ (hi x hx)
      · simp at hx
        subst hx
        exact flt_str z
    · exact .inr ⟨q, m, e, hm, by rw [upd_ne k]; exact hq, Nat.le_succ_of_le hc, fun x hx => flt_upd hp _ (hi x hx)⟩
theorem G2_app {c : Nat} (hp : H p = some (.lst l)) (z : Str) (h : G2 K M c H y) : G2 K M (c + 1) (upd H p (.lst (l ++ [.str z]))) y := by
  rcases h with h | ⟨q, m, e, hm, hq, hc, hi⟩
  · exact .inl (flt_upd hp _ h)
  · by_cases k : q = p
    · subst k
      rw [hp] at hq
      cases hq
      refine .inr ⟨q, _, e, hm, upd_same, by rw [List.length_append]; exact Nat.succ_le_succ hc, fun x hx => ?_⟩
      rcases List.mem_append.mp hx with hx | hx
      · exact G1_app hp z (hi x hx)
      · simp at hx
        subst hx
        exact .inl (flt_str z)
    · exact .inr ⟨q, m, e, hm, by rw [upd_ne k]; exact hq, Nat.le_succ_of_le hc, fun x hx => G1_app hp z (hi x hx)⟩
theorem flt_of (kn : Know K H) {d : PyData} (h : Dp K H y d) (n : noL d = true) : flt K H y := ⟨⟨d, h, n⟩, fun a l e q => by
  cases h with
  | non => cases e
  | bl b => cases e
  | int i => cases e
  | str x => cases e
  | lst h1 h2 => simp [noL] at n
  | tup h1 h2 =>
    cases e
    rcases h1 with (h1 | ⟨o, h1⟩) | ⟨o, its, k, h1, _⟩
    · rw [q] at h1; cases h1
    · rw [q] at h1; cases h1
    · rw [kn.1 _ (by rw [q]; simp)] at h1; cases h1⟩
theorem G2_of {c : Nat} (kn : Know K H) {H1 Hd : Hp} (e : Ex Hd H) (hM : ∀ a l, H1 a = none → Hd a = some (.lst l) → M a) {d : PyData} (sh : sh2 c d) (h : frN K H1 2 Hd y d) : G2 K M c H y := by
  rcases h with h | ⟨ds, rfl, p, xs, rfl, h0, hp, hl⟩
  · exact .inl (flt_of kn (dp_mono e h.1) h.2)
  · obtain ⟨s1, s2⟩ := sh ds rfl
    refine .inr ⟨p, xs, rfl, hM p _ h0 hp, e _ _ hp, by rw [hl.length]; exact s1, fun z hz => ?_⟩
    obtain ⟨i, hi⟩ := List.mem_iff_getElem?.mp hz
    obtain ⟨d, hd, r⟩ := hl.getV hi
    rcases r with r | ⟨es, rfl, q, ys, rfl, h1, hq, hm⟩
    · exact .inl (flt_of kn (dp_mono e r.1) r.2)
    · refine .inr ⟨q, ys, rfl, hM q _ h1 hq, e _ _ hq, by rw [hm.length]; exact s2 _ (List.mem_of_getElem? hd) es rfl, fun u hu => ?_⟩
      obtain ⟨j, hj⟩ := List.mem_iff_getElem?.mp hu
      obtain ⟨d2, hd2, r2⟩ := hm.getV hj
      exact flt_of kn (dp_mono e r2.1) r2.2
/-- what is new since all that may change stays -/
theorem fr_rel {Hd : Hp} (r : RelM M H H') (hM : ∀ a, M a → Hd a ≠ none) : ∀ (n : Nat) {v : V} {d : PyData}, frN K Hd n H v d → frN K Hd n H' v d
  | 0, _, _, h => ⟨dp_x r.q.f.t h.1 h.2, h.2⟩
  | n + 1, _, _, h => by
    rcases h with h | ⟨ds, h1, p, xs, h2, h3, h4, h5⟩
    · exact .inl ⟨dp_x r.q.f.t h.1 h.2, h.2⟩
    · exact .inr ⟨ds, h1, p, xs, h2, h3, r.out (fun m => hM p m h3) h4, h5.imp fun v d h => fr_rel r hM n h⟩
end
/-! ### the law's own lambdas -/
def lwOf : Stmt → Expr
  | .Assign _ (.Call _ [l] _ _) _ => l
  | .Return (some (.Compare (.Call _ [l] _ _) _ _ _)) _ => l
  | _ => .Name "" ⟨0, 0, 0, 0⟩
def lwS (i : Nat) : Stmt := (defBody s_law).getD i (.Pass ⟨0, 0, 0, 0⟩)
def lw0 : Expr := lwOf (lwS 9)
def lw1 : Expr := lwOf (lwS 11)
noncomputable def outV (g : Gram) (ns : List Str) : Out := outC g ns (.dict (verdKv g (sortU ns) (names g)))
section
variable {P : Program} {w : World} {K : PySem.W.Frag} {mg : Str → Option Value} {base : Heap} {vg : V} {pu : Addr} {g : Gram} {ns : List Str} {n : Str} {f c' : Addr} {q : Str} {cells : List (Str × Addr)} {dV : Value}
theorem run_v0 (T : Txt K mg) : LamRun P w K mg base 10 f (LamS K f (LF.of lw0 q cells c' .none) [] ["_law_grammar_here", "_law_given_here"] [vg, .ref pu] vg pu g ns n (outV g ns)) := by
  refine lam_go (N := ["_law_grammar_here", "_law_given_here"]) (show NScope _ _ _ (lamS lw0) from nscope_by (by decide +kernel)) ⟨fun doc pm ctv _ => ⟨rfl, by rfl⟩, fun doc pm ctv t u e => nomatch e⟩ fun A outer s H E Q vs hr hl le ho => ⟨_, pe_c (ok_verdicts T) hr (by decide) rfl (passes_call (takes_of rfl rfl rfl rfl) fun _ _ _ _ h => h) (pa_cons (pv 0) (pa_cons (pv 1) pa_nil)), ?_⟩
  match vs, hl with
  | [], _ => exact ⟨_, rfl, _, rfl, _, g, _, ns, rfl, le.gram, le.good, le.lst, le.sub, le.len, fun s => o_go ho s, o_err ho⟩
theorem run_v1 (T : Txt K mg) (hd : dV ≠ .none) : LamRun P w K mg base 10 f (LamS K f (LF.of lw1 q cells c' dV) ["_law_a"] ["_law_grammar_here", "_law_given_here"] [vg, .ref pu] vg pu g ns n (outV g ns)) := by
  refine lam_go (N := ["_law_a", "_law_grammar_here", "_law_given_here"]) (show NScope _ _ _ (lamS lw1) from nscope_by (by decide +kernel)) (bindN hd fun doc pm ctv t u e => ⟨_, by rfl, by rfl⟩) fun A outer s H E Q vs hr hl le ho => ⟨_, pe_c (ok_verdicts T) hr (by decide) rfl (passes_call (takes_of rfl rfl rfl rfl) fun _ _ _ _ h => h) (pa_cons (pv 1) (pa_cons (pv 2) pa_nil)), ?_⟩
  match vs, hl with
  | [x], _ => exact ⟨_, rfl, _, rfl, _, g, _, ns, rfl, le.gram, le.good, le.lst, le.sub, le.len, fun s => o_go ho s, o_err ho⟩
end
end K19

/-! ## K19Lu -/
set_option Elab.async false
set_option linter.all false
set_option maxRecDepth 100000
set_option maxHeartbeats 4000000
/-! verdicts, told in the law's own frame -/
namespace K19
open PySem PySem.Spec PyProof.Rows L2 Evl LamX NdefX
/-! ### a conflict's chain is over the grammar's names -/
theorem pick_mem {cs : List (Option (List Lit))} {c : List Lit} (h : pickOf cs = some c) : some c ∈ cs := by
  unfold pickOf at h
  cases e : (sortedBy encCand (candsOf cs)).head? with
  | none => rw [e] at h; cases h
  | some x =>
    rw [e] at h
    have hx : x ∈ candsOf cs := sortedBy_mem.mp (List.mem_of_mem_head? e)
    obtain ⟨o, ho, rfl⟩ := List.mem_map.mp hx
    obtain ⟨h1, h2⟩ := List.mem_filter.mp ho
    have h3 : o.getD [] = c := Option.some.inj h
    cases o with
    | none => cases h2
    | some c' =>
      have h3 : c' = c := h3
      rw [← h3]
      exact h1
theorem iter_keep {α : Type} {f : α → α} {p : α → Prop} (h : ∀ a, p a → p (f a)) : ∀ (n : Nat) (a : α), p a → p (iterN f n a)
  | 0, _, q => q
  | n + 1, a, q => by
    first
      | exact h _ (iter_keep h n a q)
      | exact iter_keep h n (f a) (h a q)
theorem chain_in {U : List Lit} {S : Lit → List Lit} {start goal : Lit} {c : List Lit} (hU : Uok U S) (hs : start ∈ U) (h : chainOf S start goal = some c) : ∀ l ∈ c, l ∈ U := by
  unfold chainOf at h
  split at h
  · cases h
    refine iter_keep (p := fun r => ∀ l ∈ r, l ∈ U) (fun r hr => ?_) _ _ (by simpa using hs)
    unfold chainStep
    split
    · exact hr
    · rename_i x hx
      split
      · exact hr
      · intro l hl
        rcases List.mem_append.mp hl with hl | hl
        · exact hr l hl
        · simp only [List.mem_singleton] at hl
          subst hl
          cases e : closerOf S (negD (distOf S (neg goal))) x with
          | nil => exact hr x (List.mem_of_getLast? hx)
          | cons a t => exact chain_step_in hU e
  · cases h
theorem conf_in {g : Gram} (G : Good g) {gv : List Str} (hg : ∀ z ∈ gv, z ∈ names g) {c : List Lit} (h : conflictOf (gS g) gv = some c) : ∀ l ∈ c, l.1 ∈ names g := by
  have hU : Uok (gU g) (gS g) := uok_succ G.cls (by rw [names_len]; exact G.n2) G.c6
  have h1 := pick_mem h
  obtain ⟨n, hn, h2⟩ := List.mem_map.mp h1
  have h3 := pick_mem (show pickOf ((gv.map fun n => ((n, true) : Lit)).map fun s => chainOf (gS g) s (n, false)) = some c from h2)
  obtain ⟨s, hs, h4⟩ := List.mem_map.mp h3
  obtain ⟨m, hm, rfl⟩ := List.mem_map.mp hs
  exact fun l hl => mem_litsN.mp (chain_in hU (mem_litsN.mpr (hg m hm)) h4 l hl)
theorem canLay_lits : ∀ {c : List Lit}, (∀ l ∈ c, PyData.strOk l.1 = true) → PyData.canLayAll0 (c.map encLit) = true
  | [], _ => rfl
  | l :: c, h => by
    have k := canLay_lits (c := c) fun z hz => h z (List.mem_cons_of_mem _ hz)
    simp only [List.map_cons, PyData.canLayAll0, encLit, PyData.canLay0, k, h l List.mem_cons_self, Bool.and_self]
theorem name_ok {g : Gram} (G : Good g) {z : Str} (h : z ∈ names g) : NameOk z := by
  obtain ⟨o, ho, rfl⟩ := List.mem_map.mp h
  exact (G.opts o ho).1
theorem shaped_conf {c : List Lit} (h : ∀ l ∈ c, PyData.strOk l.1 = true) : SeqAt.shaped (toldD (.conf c)) = true := by
  have k := depth_lits c
  have h1 : PyData.canLay0 (toldD (.conf c)) = true := by
    simp only [toldD, PyData.canLay0, PyData.canLayAll0, canLay_lits h, show PyData.strOk ("error" : Str) = true from by decide +kernel, show PyData.strOk ("Conflict" : Str) = true from by decide +kernel, Bool.and_self]
  have h2 : (toldD (.conf c)).depth ≤ 64 := by
    simp only [toldD, PyData.depth, PyData.depthAll]
    omega
  unfold SeqAt.shaped
  rw [h1, decide_eq_true h2]
  rfl
theorem shaped_unsat : SeqAt.shaped (toldD .unsat) = true := by
  simp only [toldD, SeqAt.shaped, PyData.canLay0, PyData.canLayAll0, PyData.depth, PyData.depthAll, show PyData.strOk ("error" : Str) = true from by decide +kernel, show PyData.strOk ("Unsatisfiable" : Str) = true from by decide +kernel]
  decide
theorem outV_go {g : Gram} {ns : List Str} (h : CGo g ns) : outV g ns = .dict (verdKv g (sortU ns) (names g)) := by
  unfold outV outC outS
  rw [if_pos h.1, h.2]
theorem outV_no {g : Gram} {ns : List Str} (h : ¬ CGo g ns) : outV g ns = .unsat ∨ ∃ c, outV g ns = .conf c ∧ conflictOf (gS g) (sortU ns) = some c := by
  unfold outV outC outS
  split
  · rename_i s
    cases e : conflictOf (gS g) (sortU ns) with
    | none => exact absurd ⟨s, e⟩ h
    | some c => exact .inr ⟨c, rfl, rfl⟩
  · exact .inl rfl
structure VErr (d : PyData) : Prop where
  flat : noL d = true
  shaped : SeqAt.shaped d = true
  tup : ∃ ds, d = .tuple ds
theorem outV_err {g : Gram} {ns : List Str} (G : Good g) (hs : ∀ z ∈ ns, z ∈ names g) (h : ¬ CGo g ns) : VErr (toldD (outV g ns)) ∧ ∀ kvs, outV g ns ≠ .dict kvs := by
  rcases outV_no h with e | ⟨c, e, hc⟩
  · rw [e]
    exact ⟨⟨rfl, shaped_unsat, _, rfl⟩, fun _ z => nomatch z⟩
  · rw [e]
    exact ⟨⟨noL_conf c, shaped_conf fun l hl => strOk_name (name_ok G (conf_in G (fun z hz => hs z (sortU_mem.mp hz)) hc l hl)), _, rfl⟩, fun _ z => nomatch z⟩
end K19

/-! ## K19Lv -/
set_option Elab.async false
set_option linter.all false
set_option maxRecDepth 100000
set_option maxHeartbeats 4000000
/-! verdicts, told in the law's own frame -/
namespace K19
open PySem PySem.Spec PyProof.Rows L2 Evl LamX NdefX
def qL : Str := "law" ++ ".<locals>." ++ "<lambda>"
def fr2 : List Str := ["_law_grammar_here", "_law_given_here"]
def lookV (x : Expr) : Bool := ((lamS x).names.all fun y => !decide (y.2 = .free) || decide (y.1 ∈ fr2)) && fr2.all fun y => decide ((y, NameKind.free) ∈ (lamS x).names)
theorem lookV0 : lookV lw0 = true := by decide +kernel
theorem lookV1 : lookV lw1 = true := by decide +kernel
/-- the law's own cells -/
structure Cells2 (cells : List (Str × Addr)) (c1 c2 : Addr) : Prop where
  a1 : cells.lookup ("_law_grammar_here" : Str) = some c1
  a2 : cells.lookup ("_law_given_here" : Str) = some c2
  ne : c1 ≠ c2
  all : ∀ y c, cells.lookup y = some c → (y = "_law_grammar_here" ∧ c = c1) ∨ (y = "_law_given_here" ∧ c = c2)
section
variable {P : Program} {w : World} {K : PySem.W.Frag} {mg : Str → Option Value} {base : Heap} {vg : V} {pu : Addr} {g : Gram} {ns : List Str} {n : Str} {f c1 c2 : Addr} {cells : List (Str × Addr)} {H1 H2 : Hp} {dt : Bool} {x : Expr}
theorem PutF.ex {cs : List (Addr × V)} (p : PutF H1 H2 cs) : Ex H1 H2 := fun a o h => by
  cases e : cs.lookup a with
  | none => rw [p.out a e]; exact h
  | some v => rw [p.no a v e] at h; cases h
theorem PutF.back {H' : Hp} {cs : List (Addr × V)} (p : PutF H1 H2 cs) (e : Ex H2 H') : Ex H1 (takC H' cs) := fun a o h => by
  cases q : cs.lookup a with
  | none =>
    rw [takC_out q]
    exact e _ _ (p.ex _ _ h)
  | some v => rw [p.no a v q] at h; cases h
theorem lamV (hv : lookV x = true) (C : Cells2 cells c1 c2) (m : MadeL H1 f x qL cells dt) (p : PutF H1 H2 (cs2 c1 c2 vg (.ref pu))) : ∃ c' dV vs, (dt = false → dV = .none ∧ vs = []) ∧ (dt = true → dV ≠ .none ∧ vs.length = 1) ∧
    LamT H2 f (LF.of x qL cells c' dV) fr2 [vg, .ref pu] (cs2 c1 c2 vg (.ref pu)) vs := by
  obtain ⟨c', dV, vs, h1, h2, h3, h4, h5⟩ := m.f (ExF.of p.ex)
  unfold lookV at hv
  simp only [Bool.and_eq_true, List.all_eq_true, decide_eq_true_eq, Bool.or_eq_true, Bool.not_eq_true', decide_eq_false_iff_not] at hv
  obtain ⟨v1, v2⟩ := hv
  have hfree : ∀ y ∈ (lamS x).names, y.2 = .free → ∃ c, cells.lookup y.1 = some c := fun y hy e => by
    rcases v1 y hy with z | z
    · exact absurd e z
    · rcases List.mem_cons.mp z with z | z
      · exact ⟨c1, by rw [z]; exact C.a1⟩
      · rcases List.mem_cons.mp z with z | z
        · exact ⟨c2, by rw [z]; exact C.a2⟩
        · cases z
  have csl : ∀ y c, cells.lookup y = some c → ∃ v, (cs2 c1 c2 vg (.ref pu)).lookup c = some v := fun y c e => by
    rcases C.all y c e with ⟨_, rfl⟩ | ⟨_, rfl⟩
    · exact ⟨_, cs2_0⟩
    · exact ⟨_, cs2_1 C.ne⟩
  refine ⟨c', dV, vs, h4, h5, h1, h2, p.has, fun y c e => csl y c (clo_cm hfree e), fun y z c e1 e2 => ?_, fun i y hi => ?_, rfl, h3⟩
  · rcases C.all y c (clo_cm hfree e1) with ⟨rfl, q1⟩ | ⟨rfl, q1⟩ <;> rcases C.all z c (clo_cm hfree e2) with ⟨rfl, q2⟩ | ⟨rfl, q2⟩ <;> first | rfl | exact absurd (q1.symm.trans q2) C.ne | exact absurd (q2.symm.trans q1) C.ne
  · match i, hi with
    | 0, hi =>
      cases hi
      exact ⟨c1, vg, clo_has hfree (v2 _ (by decide)) C.a1, rfl, cs2_0⟩
    | 1, hi =>
      cases hi
      exact ⟨c2, .ref pu, clo_has hfree (v2 _ (by decide)) C.a2, rfl, cs2_1 C.ne⟩
    | i + 2, hi => cases hi
/-- what told gives of verdicts -/
def TellV (K : PySem.W.Frag) (H1 : Hp) (g : Gram) (ns : List Str) (Q : VK) : Prop :=
  (CGo g ns → ∀ d H3, H1 d = none → Ex H1 H3 → H3 d = some (.dK (verdKv g (sortU ns) (names g))) → Q (.ref d) H3) ∧
  (¬ CGo g ns → ∀ v H3, Ex H1 H3 → Dp K H3 v (toldD (outV g ns)) → Q v H3)
theorem told_end (le : LEnv K H1 vg pu g ns n) (p : PutF H1 H2 (cs2 c1 c2 vg (.ref pu))) {Q : VK} (t : TellV K H1 g ns Q) : spOut K (outV g ns) (toldE K fun u H' => Q u (takC H' (cs2 c1 c2 vg (.ref pu)))) H2 (fun u H' => Q u (takC H' (cs2 c1 c2 vg (.ref pu)))) := by
  by_cases hc : CGo g ns
  · refine spOut_told (fun v H' e nd _ => absurd (outV_go hc) (nd _)) fun kvs e => ?_
    rw [outV_go hc] at e
    cases e
    intro d H' h0 e2 h2
    have hd : (cs2 c1 c2 vg (.ref pu)).lookup d = none := p.has.nil h0
    exact t.1 hc d _ (by rw [← p.out d hd]; exact h0) (p.back e2) (by rw [takC_out hd]; exact h2)
  · obtain ⟨ve, nd⟩ := outV_err le.good le.sub hc
    refine spOut_told (fun v H' e _ hf => ?_) fun kvs e => absurd e (nd kvs)
    have hh : HasC H' (cs2 c1 c2 vg (.ref pu)) := fun a v z => by
      rcases p.has a v z with y | ⟨ob, y⟩
      · exact .inl (e _ _ y)
      · exact .inr ⟨ob, e _ _ y⟩
    have hdp : Dp K H' v (toldD (outV g ns)) := by
      rcases hf with hf | ⟨ds, e1, _⟩
      · exact hf.1
      · obtain ⟨es, e2⟩ := ve.tup
        rw [e2] at e1
        cases e1
    exact t.2 hc v _ (p.back e) (dp_x (ext_tak hh) hdp ve.flat)
theorem told_v0 (T : Txt K mg) (C : Cells2 cells c1 c2) (le : LEnv K H1 vg pu g ns n) (m : MadeL H1 f lw0 qL cells false) (p : PutF H1 H2 (cs2 c1 c2 vg (.ref pu))) {Q : VK} (t : TellV K H1 g ns Q) {E : XK} :
    spTold P w K mg base 10 [.ref f] H2 (fun u H' => Q u (takC H' (cs2 c1 c2 vg (.ref pu)))) E := by
  obtain ⟨c', dV, vs, d0, d1, L⟩ := lamV lookV0 C m p
  obtain ⟨rfl, rfl⟩ := d0 rfl
  exact ⟨f, _, _, rfl, L.fn, run_v0 (vg := vg) (pu := pu) (g := g) (ns := ns) (n := n) T, [], _, rfl, L, le.mono p.ex, told_end le p t⟩
theorem told_v1 (T : Txt K mg) (C : Cells2 cells c1 c2) (le : LEnv K H1 vg pu g ns n) (m : MadeL H1 f lw1 qL cells true) (p : PutF H1 H2 (cs2 c1 c2 vg (.ref pu))) {Q : VK} (t : TellV K H1 g ns Q) {E : XK} :
    spTold P w K mg base 10 [.ref f] H2 (fun u H' => Q u (takC H' (cs2 c1 c2 vg (.ref pu)))) E := by
  obtain ⟨c', dV, vs, d0, d1, L⟩ := lamV lookV1 C m p
  exact ⟨f, _, _, rfl, L.fn, run_v1 (vg := vg) (pu := pu) (g := g) (ns := ns) (n := n) T (d1 rfl).1, vs, _, (d1 rfl).2, L, le.mono p.ex, told_end le p t⟩
end
end K19

/-! ## K19Lw -/
set_option Elab.async false
set_option linter.all false
set_option maxRecDepth 100000
set_option maxHeartbeats 4000000
/-! no told list is long -/
namespace K19
open PySem PySem.Spec PyProof.Rows L2 Evl LamX NdefX
def lim : Nat := 1001
theorem reach_len {U : List Lit} {S : Lit → List Lit} {l0 : Lit} (hU : Uok U S) (h : l0 ∈ U) : (reachOf S l0).length ≤ 40 := by
  have k : ROk U (iterN (reachStep S) fuel ([l0], [l0])) := iter_keep (p := ROk U) (fun s hs => by
    cases e : s.2.getLast? with
    | none =>
      have : reachStep S s = s := by
        unfold reachStep
        rw [e]
      rw [this]
      exact hs
    | some x => exact (rok_step hU hs e).1) _ _ (rok_start h)
  exact Nat.le_trans k.le hU.2.1
theorem chainStep_len (S : Lit → List Lit) (Dn : DL) (goal : Lit) (r : List Lit) : (chainStep S Dn goal r).length ≤ r.length + 1 := by
  unfold chainStep
  split
  · omega
  · split
    · omega
    · simp
theorem iter_len {f : List Lit → List Lit} (h : ∀ r, (f r).length ≤ r.length + 1) : ∀ (n : Nat) (a : List Lit), (iterN f n a).length ≤ a.length + n
  | 0, a => Nat.le_refl _
  | n + 1, a => by
    have k := iter_len h n a
    have k2 := h (iterN f n a)
    show (f (iterN f n a)).length ≤ _
    omega
theorem fuel_is : fuel = 1000 := by unfold fuel; rfl
theorem chain_len {S : Lit → List Lit} {start goal : Lit} {c : List Lit} (h : chainOf S start goal = some c) : c.length ≤ lim := by
  unfold chainOf at h
  split at h
  · cases h
    have k := iter_len (chainStep_len S (negD (distOf S (neg goal))) goal) fuel [start]
    rw [fuel_is] at k ⊢
    show _ ≤ 1001
    simp at k
    omega
  · cases h
theorem best_len {S : Lit → List Lit} {ss : List Lit} {goal : Lit} {c : List Lit} (h : bestOf S ss goal = some c) : c.length ≤ lim := by
  obtain ⟨s, _, h2⟩ := List.mem_map.mp (pick_mem h)
  exact chain_len h2
theorem acc_len {g : Gram} (G : Good g) {s : List Str} (h : s ∈ acceptedOf g) : s.length ≤ 6 := by
  have h1 := (List.mem_filter.mp h).1
  obtain ⟨p, hp, rfl⟩ := List.mem_map.mp h1
  obtain ⟨x, hx, rfl⟩ := List.mem_map.mp (sortedBy_mem.mp hp)
  have k := subStep_mem (sortedBy PyData.str (names g)) [[]] 0 (fun s hs => by simp at hs; subst hs; exact Nat.le_refl 0) x hx
  rw [sortedBy_len, names_len] at k
  have := G.n2
  show x.length ≤ 6
  omega
theorem addFirst_len {p : List Str → Bool} {n : Str} : ∀ {gs : List (List Str)} {c : Nat}, gs.length ≤ c → (∀ x ∈ gs, x.length ≤ c) → (addFirst p n gs).length ≤ c + 1 ∧ ∀ x ∈ addFirst p n gs, x.length ≤ c + 1
  | [], c, h, k => ⟨by show 1 ≤ c + 1; omega, fun x hx => by
    have hx : x ∈ [[n]] := hx
    simp at hx
    subst hx
    show 1 ≤ c + 1
    omega⟩
  | y :: r, c, h, k => by
    have hl : r.length + 1 ≤ c := h
    unfold addFirst
    split
    · refine ⟨Nat.le_succ_of_le hl, fun x hx => ?_⟩
      rcases List.mem_cons.mp hx with rfl | hx
      · have := k y List.mem_cons_self
        rw [List.length_append]
        show y.length + 1 ≤ _
        omega
      · exact Nat.le_succ_of_le (k x (List.mem_cons_of_mem _ hx))
    · have e : ∀ x ∈ addFirst p n r, x.length ≤ c + 1 := (addFirst_len (p := p) (n := n) (gs := r) (c := c) (by omega) fun x hx => k x (List.mem_cons_of_mem _ hx)).2
      have e1 : (addFirst p n r).length ≤ r.length + 1 := by
        clear e h k hl
        induction r with
        | nil => exact Nat.le_refl _
        | cons z r ih =>
          unfold addFirst
          split
          · exact Nat.le_succ _
          · exact Nat.succ_le_succ ih
      refine ⟨by rw [List.length_cons]; omega, fun x hx => ?_⟩
      rcases List.mem_cons.mp hx with rfl | hx
      · exact Nat.le_succ_of_le (k x List.mem_cons_self)
      · exact e x hx
theorem grp_len (S : Lit → List Lit) : ∀ (ns : List Str) (gs : List (List Str)) (c : Nat), gs.length ≤ c → (∀ x ∈ gs, x.length ≤ c) → (ns.foldl (grpStep S) gs).length ≤ c + ns.length ∧ ∀ x ∈ ns.foldl (grpStep S) gs, x.length ≤ c + ns.length
  | [], gs, c, h, k => ⟨h, k⟩
  | n :: ns, gs, c, h, k => by
    obtain ⟨h1, h2⟩ := addFirst_len (p := fun x => eqvB S n (x.headD "")) (n := n) h k
    obtain ⟨h3, h4⟩ := grp_len S ns (grpStep S gs n) (c + 1) h1 h2
    rw [List.foldl_cons, List.length_cons]
    exact ⟨by omega, fun x hx => by have := h4 x hx; omega⟩
theorem sh_str {c : Nat} {l : List Str} (h : l.length ≤ c) : sh2 c (.list (l.map PyData.str)) := fun ds e => by
  cases e
  refine ⟨by rw [List.length_map]; exact h, fun x hx es e => ?_⟩
  obtain ⟨y, _, rfl⟩ := List.mem_map.mp hx
  cases e
theorem sh_int {c : Nat} {l : List Int} (h : l.length ≤ c) : sh2 c (.list (l.map PyData.int)) := fun ds e => by
  cases e
  refine ⟨by rw [List.length_map]; exact h, fun x hx es e => ?_⟩
  obtain ⟨y, _, rfl⟩ := List.mem_map.mp hx
  cases e
theorem sh_lit {c : Nat} {l : List Lit} (h : l.length ≤ c) : sh2 c (.list (l.map encLit)) := fun ds e => by
  cases e
  refine ⟨by rw [List.length_map]; exact h, fun x hx es e => ?_⟩
  obtain ⟨y, _, rfl⟩ := List.mem_map.mp hx
  cases e
theorem sh_none {c : Nat} : sh2 c .none := fun ds e => nomatch e
theorem sh_tup {c : Nat} {l : List PyData} : sh2 c (.tuple l) := fun ds e => nomatch e
theorem sh_optL {c : Nat} {o : Option (List Lit)} (h : ∀ l, o = some l → l.length ≤ c) : sh2 c (optD encLit o) := by
  cases o with
  | none => exact sh_none
  | some l => exact sh_lit (h l rfl)
theorem sh_optS {c : Nat} {o : Option (List Str)} (h : ∀ l, o = some l → l.length ≤ c) : sh2 c (optD PyData.str o) := by
  cases o with
  | none => exact sh_none
  | some l => exact sh_str (h l rfl)
theorem sh_outS {g : Gram} {o : Out} (h : sh2 lim (toldD o)) : sh2 lim (toldD (outS g o)) := by
  unfold outS
  split
  · exact h
  · exact sh_tup
theorem sh_outC {g : Gram} {ns : List Str} {o : Out} (h : sh2 lim (toldD o)) : sh2 lim (toldD (outC g ns o)) := by
  refine sh_outS ?_
  split
  · exact h
  · exact sh_tup
theorem lim6 {n : Nat} (h : n ≤ 6) : n ≤ lim := Nat.le_trans h (by decide)
theorem lim40 {n : Nat} (h : n ≤ 40) : n ≤ lim := Nat.le_trans h (by decide)
theorem find_len {l : List (List Str)} {p : List Str → Bool} {s : List Str} (k : ∀ s ∈ l, s.length ≤ 6) (h : l.find? p = some s) : s.length ≤ lim := lim6 (k s (List.mem_of_find?_eq_some h))
theorem sh_outI {g : Gram} (G : Good g) (ns : List Str) {n : Str} (hn : n ∈ names g) (i : Nat) : sh2 lim (toldD (outI g ns n i)) := by
  have hU : Uok (gU g) (gS g) := uok_succ G.cls (by rw [names_len]; exact G.n2) G.c6
  have nl : (names g).length ≤ lim := lim6 (by rw [names_len]; exact G.n2)
  match i with
  | 0 => exact sh_str nl
  | 1 => exact sh_lit (by unfold sortLits; rw [sortedBy_len]; exact lim40 (reach_len hU (mem_litsN.mpr hn)))
  | 2 => exact sh_optL fun l h => chain_len h
  | 3 => exact sh_outC (sh_optS fun l h => find_len (fun s hs => acc_len G hs) h)
  | 4 =>
    refine sh_outC (sh_optL fun l h => ?_)
    unfold explainOf at h
    split at h
    · cases h
    · exact best_len h
  | 5 => exact sh_outS (sh_str (Nat.le_trans (List.length_filter_le _ _) nl))
  | 6 =>
    refine sh_outS fun ds e => ?_
    cases e
    obtain ⟨h1, h2⟩ := grp_len (gS g) (names g) [] 0 (Nat.le_refl 0) (fun x hx => by cases hx)
    rw [names_len, Nat.zero_add] at h1 h2
    refine ⟨by rw [List.length_map]; exact lim6 (Nat.le_trans h1 G.n2), fun x hx es e => ?_⟩
    obtain ⟨y, hy, rfl⟩ := List.mem_map.mp hx
    cases e
    rw [List.length_map]
    exact lim6 (Nat.le_trans (h2 y hy) G.n2)
  | 7 =>
    refine sh_outS (sh_int ?_)
    unfold redundantOf
    rw [List.length_map]
    exact lim6 (Nat.le_trans (List.length_filter_le _ _) (by rw [List.length_range]; exact G.c6))
  | 8 =>
    refine sh_outS (sh_optL fun l h => ?_)
    obtain ⟨s, _, h2⟩ := List.mem_map.mp (pick_mem h)
    exact chain_len h2
  | 9 => exact sh_outS (sh_str (Nat.le_trans (List.length_filter_le _ _) nl))
  | _ + 10 => exact sh_outS (sh_optS fun l h => find_len (fun s hs => acc_len G hs) h)
end K19

/-! ## K19Lx -/
set_option Elab.async false
set_option linter.all false
set_option maxRecDepth 100000
set_option maxHeartbeats 4000000
/-! law: the loop that changes what was returned -/
namespace K19
open PySem PySem.Spec PyProof.Rows L2 Evl LamX NdefX
abbrev NL : List Str := ["_law_script", "_law_d", "_law_grammar_here", "_law_given_here", "_law_name", "_law_handed", "_law_calls_here", "_law_due", "_law_call", "_law_kept", "_law_told_here", "_law_one", "_law_found", "_law_again"]
theorem sc_law : FnScope NL p_law (defScope s_law) := ⟨rfl, rfl, rfl, by decide +kernel, rfl, by decide +kernel, by decide +kernel⟩
abbrev XL (P : Program) (w : World) (K : PySem.W.Frag) (mg : Str → Option Value) (base : Heap) (A : Around) (outer : List Env) (s : Shared) (H : Hp) (E : XK) : Cx :=
  (cxOf CX0 P w K mg base NL "law" (defScope s_law) (He.fAd K ("law", none)) (.ref (He.cT K ("law", none)).1) A outer s H E).nox
def bnd : Nat → Nat
  | 0 => lim
  | i + 1 => 2 * bnd i + 1
theorem bnd_mono : ∀ {i j : Nat}, i ≤ j → bnd i ≤ bnd j
  | i, 0, h => by
    have : i = 0 := Nat.le_zero.mp h
    subst this
    exact Nat.le_refl _
  | i, j + 1, h => by
    rcases Nat.lt_or_eq_of_le h with k | k
    · have := bnd_mono (Nat.le_of_lt_succ k)
      show bnd i ≤ 2 * bnd j + 1
      omega
    · rw [k]
      exact Nat.le_refl _
theorem bnd_lt : 2 * bnd 11 < sizeLine := by decide
section
variable {P : Program} {w : World} {K : PySem.W.Frag} {mg : Str → Option Value} {base : Heap} {A : Around} {outer : List Env} {s : Shared} {Hs : Hp} {E : XK}
theorem loop_ok (T : Txt K mg) : ∃ t : TS, PS (XL P w K mg base A outer s Hs E) (lwS 7) t ∧ ∀ (D : Ends) (H : Hp) (pd : Addr) (xs : List V) (M : Addr → Prop) (o0 o1 o2 o3 o4 o5 o6 o8 o9 o10 o11 o12 o13 : Option V),
    H pd = some (.lst xs) → xs.length ≤ 11 → (∀ x ∈ xs, G2 K M lim H x) → ¬ M pd → (∀ o10 o11 H', RelM M H H' → D.nx [o0, o1, o2, o3, o4, o5, o6, some (.ref pd), o8, o9, o10, o11, o12, o13] H') →
    t D [o0, o1, o2, o3, o4, o5, o6, some (.ref pd), o8, o9, o10, o11, o12, o13] H := by
  refine ⟨_, ps_for PassesOwn.never rfl (pi_list (pv 7)) (pg_name (i := 10) sc_law.nd rfl (Or.inl rfl)) (pss_one (ps_if (pt_val (pe_isiK K T.f_isinstance T.f_list bt_list (pv 10))) (pss_cons (ps_for PassesOwn.never rfl (pi_list (pv 10)) (pg_name (i := 11) sc_law.nd rfl (Or.inl rfl)) (pss_one (ps_if (pt_val (pe_isiK K T.f_isinstance T.f_list bt_list (pv 11))) (pss_one (ps_expr (pe_bmK K PySem.F.plainAttrs_list PySem.F.slot_list_append PySem.F.type_list_append mt_append (pv 11) (pa_cons pe_str pa_nil)))) pss_nil)))
      (pss_one (ps_expr (pe_bmK K PySem.F.plainAttrs_list PySem.F.slot_list_append PySem.F.type_list_append mt_append (pv 10) (pa_cons pe_str pa_nil))))) pss_nil)), ?_⟩
  intro D H pd xs M o0 o1 o2 o3 o4 o5 o6 o8 o9 o10 o11 o12 o13 hpd hlen hg nm k
  have kl : kitB "list" "list" = some true := by decide +kernel
  refine ⟨_, rfl, pd, rfl, ⟨xs, sq_of hpd⟩, for_list (K := K) (a := pd) (xs := xs) (fun (i : Nat) (σ' : L2.St) (H' : Hp) => ∃ o10 o11, σ' = [o0, o1, o2, o3, o4, o5, o6, some (.ref pd), o8, o9, o10, o11, o12, o13] ∧ RelM M H H' ∧ H' pd = some (.lst xs) ∧ ∀ x ∈ xs, G2 K M (bnd i) H' x)
    ⟨_, _, rfl, RelM.refl, hpd, hg⟩ (fun i σ' H' _ ⟨_, _, _, _, e, _⟩ => sq_of e) ?_ ?_⟩
  · rintro i x σ' H1 hi ⟨o10, o11, rfl, r1, hp1, hg1⟩
    have hx : x ∈ xs := List.mem_of_getElem? hi
    have hi11 : i < 11 := by
      have := (List.getElem?_eq_some_iff.mp hi).1
      omega
    rcases hg1 x hx with ⟨⟨d, h1, h2⟩, h3⟩ | ⟨p, l, rfl, hm, hp, hc, hl⟩
    · exact ⟨_, rfl, _, _, _, _, rfl, ty_flat h1 h2, kit_flat h2, false, rfl, iteF ⟨_, _, rfl, r1, hp1, fun x hx => G2_le (by show bnd i ≤ 2 * bnd i + 1; omega) (hg1 x hx)⟩⟩
    · refine ⟨_, rfl, _, _, _, _, rfl, .base (.lst hp), kl, true, rfl, iteT ?_⟩
      refine ⟨_, rfl, p, rfl, ⟨l, sq_of hp⟩, for_list (K := K) (a := p) (xs := l) (fun (j : Nat) (σ' : L2.St) (H' : Hp) => ∃ o11, σ' = [o0, o1, o2, o3, o4, o5, o6, some (.ref pd), o8, o9, some (.ref p), o11, o12, o13] ∧ RelM M H H' ∧ H' pd = some (.lst xs) ∧ H' p = some (.lst l) ∧ j ≤ l.length ∧
        (∀ x ∈ xs, G2 K M (bnd i + j) H' x) ∧ ∀ y ∈ l, G1 K M (bnd i + j) H' y)
        ⟨_, rfl, r1, hp1, hp, Nat.zero_le _, hg1, hl⟩ (fun j σ' H' _ ⟨_, _, _, _, e, _⟩ => sq_of e) ?_ ?_⟩
      · rintro j y σ' H2 hj ⟨o11, rfl, r2, hp2, hpp, hjl, hg2, hl2⟩
        have hjl' : j < l.length := (List.getElem?_eq_some_iff.mp hj).1
        have hy : y ∈ l := List.mem_of_getElem? hj
        rcases hl2 y hy with ⟨⟨d, h1, h2⟩, h3⟩ | ⟨q, lq, rfl, hmq, hq, hcq, hlq⟩
        · exact ⟨_, rfl, _, _, _, _, rfl, ty_flat h1 h2, kit_flat h2, false, rfl, iteF ⟨_, rfl, r2, hp2, hpp, hjl', fun x hx => G2_le (Nat.le_succ _) (hg2 x hx), fun y hy => G1_le (Nat.le_succ _) (hl2 y hy)⟩⟩
        · refine ⟨_, rfl, _, _, _, _, rfl, .base (.lst hq), kl, true, rfl, iteT ?_⟩
          have nq : q ≠ p := fun z => by
            subst z
            rw [hpp] at hq
            cases hq
            exact (hlq _ hy).2 q l rfl hpp
          have nqd : q ≠ pd := fun z => nm (z ▸ hmq)
          have b1 := bnd_mono (Nat.le_of_lt hi11)
          have b2 := bnd_lt
          refine ⟨_, rfl, .inl ⟨rfl, _, sq_of hq⟩, q, lq, _, rfl, rfl, hq, by omega, _, rfl, r2.upd hq hmq _, by rw [upd_ne (Ne.symm nqd)]; exact hp2, by rw [upd_ne (Ne.symm nq)]; exact hpp, hjl', fun x hx => G2_app hq _ (hg2 x hx), fun y hy => G1_app hq _ (hl2 y hy)⟩
      · rintro σ' H2 ⟨o11, rfl, r2, hp2, hpp, _, hg2, hl2⟩
        have npd : p ≠ pd := fun z => nm (z ▸ hm)
        have b1 := bnd_mono (Nat.le_of_lt hi11)
        have b2 := bnd_lt
        refine ⟨_, rfl, .inl ⟨rfl, _, sq_of hpp⟩, p, l, _, rfl, rfl, hpp, by omega, _, _, rfl, r2.upd hpp hm _, by rw [upd_ne (Ne.symm npd)]; exact hp2, fun x hx => G2_le ?_ (G2_app hpp _ (hg2 x hx))⟩
        show bnd i + l.length + 1 ≤ 2 * bnd i + 1
        omega
  · rintro σ' H1 ⟨o10, o11, rfl, r1, _, _⟩
    exact k _ _ _ r1
end
end K19

/-! ## K19Ly -/
set_option Elab.async false
set_option linter.all false
set_option maxRecDepth 100000
set_option maxHeartbeats 4000000
/-! law, walked -/
namespace K19
open PySem PySem.Spec PyProof.Rows L2 Evl LamX NdefX
theorem cellsL (n : Nat) : cellsFrom n (defScope s_law).names [] = ([("_law_grammar_here", n + 1), ("_law_given_here", n)] : List (Str × Addr)) := rfl
theorem cells2L (n : Nat) : Cells2 (cellsFrom n (defScope s_law).names []) (n + 1) n := by
  rw [cellsL]
  refine ⟨rfl, rfl, ?_, fun y c h => ?_⟩
  · have k : ∀ m : Nat, m + 1 ≠ m := fun m => by omega
    exact k n
  · have m := PySem.mem_of_lookup h
    simp at m
    rcases m with ⟨h1, h2⟩ | ⟨h1, h2⟩
    · exact .inl ⟨h1, h2⟩
    · exact .inr ⟨h1, h2⟩
theorem passF {P : Program} {w : World} {X : Cx} : Passes (L2.CX P w) X (fun _ _ _ => False) := fun pins σ H s e s' I c => by
  obtain ⟨_, _, _, _, _, _, _, _, _, _, _, _, z⟩ := c
  exact z.elim
abbrev TsL (K : PySem.W.Frag) : List NTab := [((He.cT K ("_law_calls", none)).2, fun _ _ => qC), ((He.cT K ("law", none)).2, fun _ _ => qL)]
theorem freeV {x : Expr} (h : lookV x = true) : ∀ y ∈ (lamS x).names, y.2 = .free → (defScope s_law).names.lookup y.1 = some .cell ∨ (defScope s_law).names.lookup y.1 = some .free := fun y hy e => by
  unfold lookV at h
  simp only [Bool.and_eq_true, List.all_eq_true, decide_eq_true_eq, Bool.or_eq_true, Bool.not_eq_true', decide_eq_false_iff_not] at h
  have k : ∀ z ∈ fr2, (defScope s_law).names.lookup z = some .cell := by decide +kernel
  rcases h.1 y hy with z | z
  · exact absurd e z
  · exact .inl (k _ z)
theorem lr_idx {fs : List Addr} {H : Hp} : ∀ (xs : List Addr) (k : Nat), (∀ i f, xs[i]? = some f → fs[k + i]? = some f) → LR (fun (_ : Hp) v (i : Nat) => ∃ f, v = V.ref f ∧ fs[i]? = some f) H (xs.map V.ref) (List.range' k xs.length)
  | [], _, _ => .nil
  | x :: xs, k, h => .cons ⟨x, rfl, h 0 x rfl⟩ (lr_idx (H := H) xs (k + 1) fun i f hf => by
    have := h (i + 1) f hf
    rw [show k + (i + 1) = k + 1 + i by omega] at this
    exact this)
theorem mIdx {fs : List Addr} : Mono (fun (_ : Hp) v (i : Nat) => ∃ f, v = V.ref f ∧ fs[i]? = some f) := fun _ _ _ _ _ h => h
/-- told by a heap that knows the list -/
def S9 (K : PySem.W.Frag) (H9 : Hp) (D : Addr) : DR PyData := fun H v d => ∃ H0, Ex H9 H0 ∧ H0 D ≠ none ∧ frN K H0 2 H v d
theorem mS9 {K : PySem.W.Frag} {H9 : Hp} (D : Addr) : Mono (S9 K H9 D) := fun _ _ _ _ e ⟨H0, a, b, c⟩ => ⟨H0, a, b, mFr 2 _ _ _ _ e c⟩
theorem uS9 {K : PySem.W.Frag} {H9 : Hp} (D : Addr) (H : Hp) (l ys : List V) (v : V) (b : PyData) (hD : H D = some (.lst l)) (h : S9 K H9 D H v b) : S9 K H9 D (upd H D (.lst ys)) v b := let ⟨H0, a, b, c⟩ := h; ⟨H0, a, b, fr_upd b hD 2 c⟩
/-- what the calls are told to give -/
noncomputable def dueD (g : Gram) (ns : List Str) (n : Str) : List PyData := (List.range 11).map fun i => toldD (outI g ns n i)
theorem dueD_at {g : Gram} {ns : List Str} {n : Str} {x : PyData} (h : x ∈ dueD g ns n) : ∃ i, x = toldD (outI g ns n i) := by
  obtain ⟨i, _, rfl⟩ := List.mem_map.mp h
  exact ⟨i, rfl⟩
theorem dueD_lev (g : Gram) (ns : List Str) (n : Str) : lev 4 (.list (dueD g ns n)) := lev_list fun x hx => by
  obtain ⟨i, rfl⟩ := dueD_at hx
  exact lev_outI g ns n i
theorem shaped_strs {ns : List Str} (h : ∀ z ∈ ns, PyData.strOk z = true) : SeqAt.shaped (.list (ns.map PyData.str)) = true := by
  simp only [SeqAt.shaped, PyData.canLay0, PyData.depth, canLay_strs h, depth_strs]
  decide
theorem eqv_same {d : PyData} (h : SeqAt.shaped d = true) : PyData.eqv d d = true := SeqAt.eqv_refl d (SeqAt.canLay_of_shaped h)
theorem nodup_inr {f : Str → V} : ∀ {l : List Str}, l.Nodup → (l.map ((fun x : Key × V => x.1) ∘ fun n => ((Sum.inr n : Key), f n))).Nodup
  | [], _ => List.nodup_nil
  | z :: l, h => by
    obtain ⟨h1, h2⟩ := List.nodup_cons.mp h
    refine List.nodup_cons.mpr ⟨fun m => ?_, nodup_inr h2⟩
    obtain ⟨y, hy, e⟩ := List.mem_map.mp m
    have e : (Sum.inr y : Key) = Sum.inr z := e
    cases e
    exact h1 hy
def spLaw (K : PySem.W.Frag) : Sp := fun vs H Q _ => ∃ (a : Addr) (ns : List Int), vs = [.ref a] ∧ SqL K H a (ns.map V.int) ∧ ns.length ≤ 63 ∧ TabsN (TsL K) H ∧ ∀ H', Q (.bl true) H'
theorem fnT {P : Program} {w : World} {K : PySem.W.Frag} {mg : Str → Option Value} {base : Heap} {p : He.Defn} {x qual : Str} {st : Stmt} {fd : FuncData} {N ps : List Str} {k : Nat} {sp : Sp} (F : FunD K x qual (defArgs st) (defBody st) (defScope st) [] [] (He.fAd K p) fd) (S : FnScope N ps (defScope st)) (len : ∀ vs H Q E, sp vs H Q E → vs.length = ps.length)
    (hbody : ∀ (A : Around) (outer : List Env) (s : Shared) (H : Hp) (vs : List V) (Q : VK) (E : XK), Room k (A.deeper (envOfC qual (defScope st) s.heap.objs.size (He.fAd K p) (.ref (He.cT K p).1))) → sp vs H Q E →
      ∃ t, PSs (cxOf CX0 P w K mg base N qual (defScope st) (He.fAd K p) (.ref (He.cT K p).1) A outer s H E).nox (defBody st) t ∧ t { nx := fun _ H' => Q .non H', rt := Q } (start N vs) H) : FnOk P w K mg base CX0 (k + 1) (He.fAd K p) fd ps sp := by
  obtain ⟨oc, od, dV, kV, doc, pm, an, ct, osl, rfl, lk, hcd⟩ := code_of F
  exact fn_of lk hcd S len fun A outer s H vs Q E hr hsp => let ⟨t, h, q⟩ := hbody A outer s H vs Q E hr hsp; ⟨t, h.nox, q⟩
section
variable {P : Program} {w : World} {K : PySem.W.Frag} {mg : Str → Option Value} {base : Heap}
theorem ok_law (T : Txt K mg) (TB1 : TabB base mg (He.cT K ("_law_calls", none)).1 (He.cT K ("_law_calls", none)).2) (TB2 : TabB base mg (He.cT K ("law", none)).1 (He.cT K ("law", none)).2) (ne : (He.cT K ("_law_calls", none)).2 ≠ (He.cT K ("law", none)).2)
    {fd : FuncData} (F : FunD K "law" "law" (defArgs s_law) (defBody s_law) (defScope s_law) [] [] (He.fAd K ("law", none)) fd) : FnOk P w K mg base CX0 12 (He.ga K "law") fd p_law (spLaw K) := by
  have hu1 : ∀ p ∈ TsL K, p.1 = (He.cT K ("_law_calls", none)).2 → p.2 = fun _ _ => qC := fun p hp e => by
    rcases List.mem_cons.mp hp with rfl | hp
    · rfl
    · rcases List.mem_cons.mp hp with rfl | hp
      · exact absurd e.symm ne
      · cases hp
  have hu2 : ∀ p ∈ TsL K, p.1 = (He.cT K ("law", none)).2 → p.2 = fun _ _ => qL := fun p hp e => by
    rcases List.mem_cons.mp hp with rfl | hp
    · exact absurd e ne
    · rcases List.mem_cons.mp hp with rfl | hp
      · rfl
      · cases hp
  have hm1 : ((He.cT K ("_law_calls", none)).2, fun (_ _ : Nat) => qC) ∈ TsL K := List.mem_cons_self
  have hm2 : ((He.cT K ("law", none)).2, fun (_ _ : Nat) => qL) ∈ TsL K := List.mem_cons_of_mem _ List.mem_cons_self
  refine fnT (p := ("law", none)) (N := NL) F sc_law (fun vs H Q E h => ?_) fun A outer s H vs Q E hr h => ?_
  · obtain ⟨_, _, rfl, _⟩ := h; rfl
  · obtain ⟨a, ns0, rfl, ha, hlen, htab, k⟩ := h
    obtain ⟨tl, hl, kl⟩ := loop_ok (P := P) (w := w) (mg := mg) (base := base) (A := A) (outer := outer) (s := s) (Hs := H) (E := E) T
    have C2 := cells2L (s.heap.objs.size + 1)
    have hk1 : (defScope s_law).names.lookup ("_law_grammar_here" : Str) = some .cell := by decide +kernel
    have hk2 : (defScope s_law).names.lookup ("_law_given_here" : Str) = some .cell := by decide +kernel
    refine ⟨_, (pss_cons (ps_set (i := 1) sc_law.nd rfl (Or.inl rfl) (pe_c (ok__law_dice (P := P) (w := w) (base := base) T) hr (by decide) rfl pass0 (pa_cons (pv 0) pa_nil)))
      (pss_cons (ps_set (i := 2) sc_law.nd rfl (Or.inr rfl) (pe_c (ok__law_grammar (P := P) (w := w) (base := base) T) hr (by decide) rfl pass0 (pa_cons (pv 1) (pa_cons pe_int (pa_cons pe_int pa_nil)))))
      (pss_cons (ps_asg (pe_tup (pa_cons (pe_callTy (cr_listOf K) rfl T.f_list bt_list (pa_cons (pe_c (ok__law_given (P := P) (w := w) (base := base) T) hr (by decide) rfl pass0 (pa_cons (pv 1) (pa_cons (pv 2) (pa_cons pe_int pa_nil)))) pa_nil)) (pa_cons (pe_c (ok__law_pick (P := P) (w := w) (base := base) T) hr (by decide) rfl pass0 (pa_cons (pv 1) (pa_cons (pe_c (ok__law_names (P := P) (w := w) (base := base) T) hr (by decide) rfl pass0 (pa_cons (pv 2) pa_nil)) pa_nil))) pa_nil))) (pgT K rfl (pgs_cons (pg_name (i := 3) sc_law.nd rfl (Or.inr rfl)) (pgs_cons (pg_name (i := 4) sc_law.nd rfl (Or.inl rfl)) pgs_nil))))
      (pss_cons (ps_set (i := 5) sc_law.nd rfl (Or.inl rfl) (pe_callTy (cr_listOf K) rfl T.f_list bt_list (pa_cons (pv 3) pa_nil)))
      (pss_cons (ps_set (i := 6) sc_law.nd rfl (Or.inl rfl) (pe_c (ok__law_calls (P := P) (w := w) (base := base) T TB1 hm1 hu1) hr (by decide) rfl pass0 (pa_cons (pv 2) (pa_cons (pv 3) (pa_cons (pv 4) pa_nil)))))
      (pss_cons (ps_know K (ps_setLc (i := 7) (own := [("_law_call", 8)]) (g := gName 8) (tt := tYes) rfl sc_law.nd rfl rfl (sw_true rfl rfl rfl (by decide +kernel)) (pi_list (pv 6)) (blkOk_by (N := NL) (sc := defScope s_law) (by decide +kernel)) (fun _ _ _ _ _ => (pg_name (i := 8) sc_law.nd rfl (Or.inl rfl))) (fun _ _ _ _ _ => pts_nil) (fun _ _ _ _ _ => (pe_c (ok__law_told (P := P) (w := w) (base := base) (k := 10) T) hr (by decide) rfl pass0 (pa_cons (pv 8) pa_nil)))))
      (pss_cons (ps_set (i := 9) sc_law.nd rfl (Or.inl rfl) (pe_c (ok__law_copied (P := P) (w := w) (base := base) T 3) hr (by decide) rfl pass0 (pa_cons (pv 7) pa_nil)))
      (pss_cons (ps_know K hl)
      (pss_cons (ps_if (PW.pt (pw_or (pt_not (pt_val (pe_c (ok__law_like (P := P) (w := w) (base := base) T 4) hr (by decide) rfl pass0 (pa_cons (pe_lc (own := [("_law_call", 8)]) (g := gName 8) (tt := tYes) rfl sc_law.nd (pi_list (pv 6)) (blkOk_by (N := NL) (sc := defScope s_law) (by decide +kernel)) (fun _ _ _ _ _ => (pg_name (i := 8) sc_law.nd rfl (Or.inl rfl))) (fun _ _ _ _ _ => pts_nil) (fun _ _ _ _ _ => (pe_c (ok__law_told (P := P) (w := w) (base := base) (k := 10) T) hr (by decide) rfl pass0 (pa_cons (pv 8) pa_nil)))) (pa_cons (pv 9) pa_nil))))) (pw_or1 (pt_cmpR (op_neD hr.units) (pv 3) (pv 5) (nomark _))))) (pss_one (ps_ret pe_bl)) pss_nil)
      (pss_cons (ps_set (i := 12) sc_law.nd rfl (Or.inl rfl) (pe_callC (i1 := 2) (i2 := 3) (ok__law_told (P := P) (w := w) (base := base) (k := 10) T) hr (by decide) rfl (pe_lamE0 lw0 rfl TB2 rfl hm2 rfl hu2 (freeV lookV0) rfl) C2.a1 C2.a2 C2.ne rfl rfl hk1 hk2 (fun _ => rfl)))
      (pss_cons (ps_if (pt_val (pe_isiK K T.f_isinstance T.f_dict bt_dict (pv 12))) (pss_cons (ps_set (i := 13) sc_law.nd rfl (Or.inl rfl) (pe_callTy call_dictD rfl T.f_dict bt_dict (pa_cons (pv 12) pa_nil)))
      (pss_cons (ps_expr (pe_dclear (pv 12)))
      (pss_one (ps_ret (pe_cmpR (op_eq_dict hr.units0) (pe_c (ok_verdicts (P := P) (w := w) (base := base) T) hr (by decide) rfl passF (pa_cons (pv 2) (pa_cons (pv 3) pa_nil))) (pv 13) (nomark _)))))) pss_nil)
      (pss_one (ps_ret (pe_cmpR (op_eqD hr.units) (pe_callC (i1 := 2) (i2 := 3) (ok__law_told (P := P) (w := w) (base := base) (k := 10) T) hr (by decide) rfl (pe_lamE1 lw1 rfl TB2 rfl hm2 rfl hu2 (freeV lookV1) rfl rfl pe_int) C2.a1 C2.a2 C2.ne rfl rfl hk1 hk2 (fun _ => rfl)) (pv 12) (nomark _))))))))))))))), ?_⟩
    -- dice, grammar
    refine ⟨_, rfl, a, ns0, rfl, ha, hlen, fun d H1 hd0 e1 hd1 => ?_⟩
    refine ⟨_, rfl, d, (a, ns0), rfl, hd1, fun vg g H2 G e2 hd2 hg2 => ?_⟩
    -- given, name
    refine ⟨_, rfl, _, rfl, d, vg, g, (a, ns0), rfl, hd2, hg2, G, fun pg ns H3 hns hl3 e3 hd3 hp3 => ?_⟩
    refine ⟨pg, _, rfl, hp3, fun pu hpu => ?_⟩
    have hg3 := good_sGram hg2 hd2 e3
    have x4 := Ex.new (o := .lst (ns.map V.str)) hpu
    have hd4 := hd3.mono x4
    have hg4 := mGram _ _ _ _ x4 hg3
    have hu4 : upd H3 pu (.lst (ns.map V.str)) pu = some (.lst (ns.map V.str)) := upd_same
    have n1 := G.n1
    have n2 := G.n2
    have nl := names_len (g := g)
    refine ⟨_, rfl, _, rfl, vg, g, rfl, hg4, by rw [names_len]; exact G.n2, fun pn H5 xs hpn x5 h5 hl5 => ?_⟩
    have ex := lr_strs hl5
    subst ex
    have hd5 := hd4.mono x5
    refine ⟨d, pn, _, (a, ns0), rfl, hd5, SqB.ne (sq_of h5) (hd4.ne hpn), by rw [List.length_map]; omega, by rw [List.length_map]; omega, fun y H6 hy e6 hd6 => ?_⟩
    obtain ⟨n, hn, rfl⟩ := List.mem_map.mp hy
    have nud : pu ≠ d := hd3.ne hpu
    refine ⟨by show 2 ≤ sizeLine; decide, fun pt hpt => ?_⟩
    have x7 := Ex.new (o := .tup [V.ref pu, .str n]) hpt
    refine ⟨pt, _, rfl, st_of upd_same, rfl, _, _, rfl, _, _, rfl, rfl, ?_⟩
    have hu7 := x7 _ _ (e6 _ _ nud (x5 _ _ hu4))
    -- handed
    refine ⟨_, rfl, pu, _, rfl, .inl (sq_of hu7), fun ph hph => ?_⟩
    have x8 := Ex.new (o := .lst (ns.map V.str)) hph
    have q28 : ExQ H2 (upd (upd H6 pt (.tup [V.ref pu, .str n])) ph (.lst (ns.map V.str))) := ((((ExQ.b hd2 e3).trans (.of x4)).trans (.of x5)).trans (ExQ.b hd5 e6)).trans ((ExQ.of x7).trans (.of x8))
    have tab8 := (((ExQ.of e1).trans (ExQ.b hd1 e2)).trans q28).tab htab
    have hg8 := xGram _ _ _ _ q28.f.t hg2
    have hu8 := x8 _ _ hu7
    have hh8 : upd (upd H6 pt (.tup [V.ref pu, .str n])) ph (.lst (ns.map V.str)) ph = some (.lst (ns.map V.str)) := upd_same
    generalize upd (upd H6 pt (.tup [V.ref pu, .str n])) ph (.lst (ns.map V.str)) = H8 at tab8 hg8 hu8 hh8 ⊢
    clear q28 x8 x7 x5 x4 e6 e3 e2 e1
    -- the calls
    refine ⟨_, rfl, _, rfl, _, rfl, vg, .ref pu, .str n, rfl, tab8, fun r H9 fs cells cs cr => ?_⟩
    have le9 : LEnv K H9 vg pu g ns n := ⟨xGram _ _ _ _ (ExF.n cr.ex).t hg8, G, cr.ex _ _ hu8 (fun _ z => nomatch z), hns, hl3, hn⟩
    have hh9 : H9 ph = some (.lst (ns.map V.str)) := cr.ex _ _ hh8 (fun _ z => nomatch z)
    have ck9 : CallsK H9 fs cells cs vg pu n := ⟨cr.len, cr.md, cr.has, cr.all, cr.inj, cr.vals⟩
    have hr9 := cr.lst
    have tab9 := cr.tb
    have hlen11 : fs.length = 11 := cr.len
    clear cr
    have lr9 : rLst K (fun (_ : Hp) v (i : Nat) => ∃ f, v = V.ref f ∧ fs[i]? = some f) H9 (.ref r) (List.range 11) := ⟨r, _, rfl, sq_of hr9, by
      have z := lr_idx (H := H9) (fs := fs) fs 0 (fun i f hf => by rw [Nat.zero_add]; exact hf)
      rw [hlen11, ← List.range_eq_range'] at z
      exact z⟩
    have s11 : (List.range 11).length ≤ sizeLine := by rw [List.length_range]; decide
    -- due
    intro kn9
    dsimp only [tAsg]
    refine evn_lcD (gv := fun i => toldD (outI g ns n i)) (S := S9 K H9) (e := Ex.refl H9) (h := evr_var (mLst mIdx) rfl lr9) s11 mIdx mS9 uS9 (fun _ => rfl) (fun x i H10 D l hi e10 hD0 hD hx H11 e11 Q q => ?_) fun pd H10 xs hpd e10 h10 hl10 => ?_
    · obtain ⟨f, rfl, hf⟩ := hx
      have e := e10.trans e11
      exact ⟨_, rfl, told_call (E := C8.E0) T (ck9.ff (ExF.of e)) (le9.mono e) (List.mem_range.mp hi) hf fun v H12 e12 hv => q v H12 e12 ⟨H11, e, by rw [e11 _ _ hD]; simp, hv⟩⟩
    have hl10 : LR (S9 K H9 pd) H10 xs (dueD g ns n) := hl10
    have fr10 : frN K H9 3 H10 (.ref pd) (.list (dueD g ns n)) := fr_list hpd h10 (hl10.imp fun v d ⟨H0, a, b, c⟩ => fr_back a 2 c)
    -- kept
    refine ⟨_, rfl, H9, .ref pd, .list (dueD g ns n), rfl, fr10, fun vk H11 e11 hk11 => ?_⟩
    -- the loop
    intro kn11
    have xlen : xs.length = 11 := by rw [hl10.length]; unfold dueD; rw [List.length_map, List.length_range]
    refine kl _ H11 pd xs (fun a => H9 a = none ∧ H10 a ≠ none ∧ a ≠ pd) _ _ _ _ _ _ _ _ _ _ _ _ _ (e11 _ _ h10) (Nat.le_of_eq xlen) (fun x hx => ?_) (fun m => m.2.2 rfl) fun o10 o11 H12 rel => ?_
    · obtain ⟨i, hi⟩ := List.mem_iff_getElem?.mp hx
      obtain ⟨dd, hdd, H0, a0, b0, c0⟩ := hl10.getV hi
      obtain ⟨i', rfl⟩ := dueD_at (List.mem_of_getElem? hdd)
      refine G2_of kn11 e11 (fun p l z1 z2 => ⟨fresh_back a0 z1, by rw [z2]; simp, fun y => ?_⟩) (sh_outI G ns hn i') c0
      rw [y] at z1
      exact b0 z1
    -- the second round
    have nMu : ∀ a : Addr, H9 a ≠ none → ¬ (H9 a = none ∧ H10 a ≠ none ∧ a ≠ pd) := fun a h m => h m.1
    have u11 : ∀ (a : Addr) (l : List V), H9 a = some (.lst l) → H12 a = some (.lst l) := fun a l h => rel.out (nMu a (by rw [h]; simp)) (e11 _ _ (e10 _ _ h))
    have le12 : LEnv K H12 vg pu g ns n := (le9.mono (e10.trans e11)).x rel.q.f.t ((u11 pu _ le9.given).trans (e11 _ _ (e10 _ _ le9.given)).symm)
    have hh12 := u11 ph _ hh9
    have hr12 := u11 r _ hr9
    have ck12 := (ck9.ff (ExF.of (e10.trans e11))).ff rel.q.f
    have tab12 := ((ExQ.of (e10.trans e11)).trans rel.q).tab tab9
    have hk12 : frN K H10 3 H12 vk (.list (dueD g ns n)) := fr_rel rel (fun a m => m.2.1) 3 hk11
    clear rel nMu u11 hk11 hr9 hh9 le9 ck9 tab9 hl10 fr10 h10 kl kn9 kn11 lr9
    have lr12 : rLst K (fun (_ : Hp) v (i : Nat) => ∃ f, v = V.ref f ∧ fs[i]? = some f) H12 (.ref r) (List.range 11) := ⟨r, _, rfl, sq_of hr12, by
      have z := lr_idx (H := H12) (fs := fs) fs 0 (fun i f hf => by rw [Nat.zero_add]; exact hf)
      rw [hlen11, ← List.range_eq_range'] at z
      exact z⟩
    dsimp only [tSeq, tIfS, tOr, tNot, tTest, tB, tCall, tCons]
    refine evn_lcD (gv := fun i => toldD (outI g ns n i)) (S := S9 K H12) (e := Ex.refl H12) (h := evr_var (mLst mIdx) rfl lr12) s11 mIdx mS9 uS9 (fun _ => rfl) (fun x i H13 D l hi e13 hD0 hD hx H14 e14 Q q => ?_) fun p2 H13 ys hp2 e13 h13 hl13 => ?_
    · obtain ⟨f, rfl, hf⟩ := hx
      have e := e13.trans e14
      exact ⟨_, rfl, told_call (E := C8.E0) T (ck12.ff (ExF.of e)) (le12.mono e) (List.mem_range.mp hi) hf fun v H15 e15 hv => q v H15 e15 ⟨H14, e, by rw [e14 _ _ hD]; simp, hv⟩⟩
    have hl13 : LR (S9 K H12 p2) H13 ys (dueD g ns n) := hl13
    have fr13 : frN K H12 3 H13 (.ref p2) (.list (dueD g ns n)) := fr_list hp2 h13 (hl13.imp fun v d ⟨H0, a, b, c⟩ => fr_back a 2 c)
    have dl := dueD_lev g ns n
    refine ⟨_, rfl, .ref p2, vk, .list (dueD g ns n), rfl, lev_fr 3 4 fr13 dl, lev_fr 3 4 (mFr 3 _ _ _ _ e13 hk12) dl, fun H14 e14 => ⟨true, rfl, iteF ?_⟩⟩
    have le14 := le12.mono (e13.trans e14)
    have hh14 := (e13.trans e14) _ _ hh12
    have tab14 := tab12.ext (e13.trans e14)
    have shn : SeqAt.shaped (.list (ns.map PyData.str)) = true := shaped_strs fun z hz => strOk_name (name_ok G (hns z hz))
    refine ⟨_, rfl, _, rfl, _, _, .lst (sq_of le14.given) (dpStrs ns), .lst (sq_of hh14) (dpStrs ns), shn, shn, false, by rw [eqv_same shn]; rfl, iteF ?_⟩
    -- verdicts
    refine ⟨tab14, fun f H15 eN hfr tab15 hf0 md => ⟨vg, .ref pu, rfl, rfl, fun H16 pf => ?_⟩⟩
    have le15 : LEnv K H15 vg pu g ns n := ⟨xGram _ _ _ _ (ExF.n eN).t le14.gram, G, eN _ _ le14.given (fun _ z => nomatch z), hns, hl3, hn⟩
    refine told_v0 (g := g) (ns := ns) (n := n) T C2 le15 md pf ⟨fun cgo dd H17 hdd e17 h17 => ?_, fun ncgo v H17 e17 hdp => ?_⟩
    · -- a dict
      have le17 := le15.mono e17
      refine ⟨_, rfl, _, _, _, _, rfl, .base (.dK h17), (by decide +kernel : kitB "dict" "dict" = some true), true, rfl, iteT ?_⟩
      refine ⟨_, rfl, dd, _, rfl, .inl h17, fun pa hpa => ?_⟩
      have x18 := Ex.new (o := .dK (verdKv g (sortU ns) (names g))) hpa
      have h18 := x18 _ _ h17
      have ha18 : upd H17 pa (.dK (verdKv g (sortU ns) (names g))) pa = some (.dK (verdKv g (sortU ns) (names g))) := upd_same
      have npd : pa ≠ dd := fun z => by
        rw [z, h17] at hpa
        cases hpa
      have le18 := le17.mono x18
      generalize upd H17 pa (.dK (verdKv g (sortU ns) (names g))) = H18 at h18 ha18 le18 ⊢
      refine ⟨_, rfl, .inr (.inr (.inl ⟨rfl, .inl ⟨_, h18⟩⟩)), dd, _, rfl, rfl, h18, ?_⟩
      have xt : ExT H18 (upd H18 dd (.dK [])) := ⟨fun b xs h => by rw [upd_ne (ne_of h h18 (fun z => by cases z))]; exact h, fun b o xs h => by rw [upd_ne (ne_of h h18 (fun z => by cases z))]; exact h⟩
      have le19 : LEnv K (upd H18 dd (.dK [])) vg pu g ns n := le18.x xt (upd_ne (ne_of le18.given h18 (fun z => by cases z)))
      have ha19 : upd H18 dd (.dK []) pa = some (.dK (verdKv g (sortU ns) (names g))) := by rw [upd_ne npd]; exact ha18
      refine ⟨_, rfl, _, rfl, vg, g, .ref pu, ns, rfl, le19.gram, G, le19.lst, hns, hl3, fun _ d2 H20 h0 e20 h20 => ?_, ⟨fun s => absurd cgo.1 (by rw [s]; decide), fun _ c hc => absurd cgo.2 (by rw [hc]; exact fun z => nomatch z)⟩⟩
      refine ⟨_, rfl, d2, pa, _, rfl, rfl, h20, e20 _ _ ha19, ?_, fun p hp => ?_, k _⟩
      · unfold verdKv
        rw [List.map_map]
        exact nodup_inr G.names
      · obtain ⟨z, _, rfl⟩ := List.mem_map.mp hp
        rfl
    · -- an error's tuple
      obtain ⟨ve, _⟩ := outV_err G hns ncgo
      obtain ⟨ds, hds⟩ := ve.tup
      have ty : ∃ p, v = .ref p ∧ TyX K H17 (.ref p) (.type "tuple") := by
        rw [hds] at hdp
        cases hdp with
        | tup h1 h2 => exact ⟨_, rfl, tyT h1⟩
      obtain ⟨p, rfl, ty⟩ := ty
      refine ⟨_, rfl, _, _, _, _, rfl, ty, (by decide +kernel : kitB "tuple" "dict" = some false), false, rfl, iteF ?_⟩
      have le17 := le15.mono e17
      refine ⟨tab15.ext e17, fun f2 H18 eN2 hfr2 tab18 hf2 md2 => ⟨vg, .ref pu, rfl, rfl, fun H19 pf2 => ?_⟩⟩
      have le18 : LEnv K H18 vg pu g ns n := ⟨xGram _ _ _ _ (ExF.n eN2).t le17.gram, G, eN2 _ _ le17.given (fun _ z => nomatch z), hns, hl3, hn⟩
      refine told_v1 (g := g) (ns := ns) (n := n) (Q := fun x H1 => tVar 12 [some (V.ref a), some (V.ref d), some vg, some (V.ref pu), some (V.str n), some (V.ref ph), some (V.ref r), some (V.ref pd), none, some vk, o10, o11, some (V.ref p), none] H1 fun y H2 => rEqD K x y H2 Q) T C2 le18 md2 pf2 ⟨fun cgo => absurd cgo ncgo, fun _ v2 H20 e20 hdp2 => ?_⟩
      have hdp20 : Dp K H20 (.ref p) (toldD (outV g ns)) := dp_x ((ExF.n eN2).t.trans (ExT.of e20)) hdp ve.flat
      refine ⟨_, rfl, _, _, hdp2, hdp20, ve.shaped, ve.shaped, ?_⟩
      rw [eqv_same ve.shaped]
      exact k _
end
end K19

/-! ## K19End -/
set_option Elab.async false
set_option linter.all false
set_option maxRecDepth 100000
set_option maxHeartbeats 0
namespace K19
open PySem PySem.Spec PyProof.Rows L2 LamX
theorem law_at {w : World} {K : PySem.W.Frag} {h : Heap} {mg : Str → Option Value} {f : Addr} (X : K.In h) (G : h.Ns mainGlobals mg) (hfa : mg ("law" : Str) = some (.ref f)) (c : He.SaysX fa fn [] tf ex w h K) :
    LawAtS PySem.Challenge.rw_flagclause_k19_whole_repeated_calls w K CX0 12 63 "_law_script" mg f h := by
  have hx := c.more
  unfold ex at hx
  simp only [Bool.and_eq_true, Bool.not_eq_true', decide_eq_false_iff_not] at hx
  have T : Txt K mg := ⟨c.t.d, ⟨h, X, G⟩, hx.1⟩
  have e := hfa.symm.trans T.g_law
  cases e
  obtain ⟨fd, F, b⟩ := T.D_law
  have bA := FunD.bindsA (ps := ["_law_script"]) F fun _ _ _ _ _ _ us hl => match us, hl with | [_], _ => rfl
  have m1 : He.cT K ("_law_calls", none) ∈ tf.map (He.cT K) := List.mem_cons_self
  have m2 : He.cT K ("law", none) ∈ tf.map (He.cT K) := List.mem_cons_of_mem _ List.mem_cons_self
  refine ⟨fd, tf.map (He.cT K), spLaw K, fun p hp => ?_, fun p hp => ?_, fun p hp => ?_, fun s v => bA s [v] rfl, fun H a ns hl _ hT hS => ⟨a, ns, rfl, hS, hl, fun q hq => ?_, fun _ => rfl⟩, fun base hb hg hTB => ok_law T (hTB _ m1) (hTB _ m2) hx.2 F⟩
  · obtain ⟨q, hq, rfl⟩ := List.mem_map.mp hp
    exact c.empty q hq
  · obtain ⟨q, hq, rfl⟩ := List.mem_map.mp hp
    exact c.out q hq
  · obtain ⟨q, hq, rfl⟩ := List.mem_map.mp hp
    exact PySem.W.codeHd_of_K X (c.hd q hq)
  · rcases List.mem_cons.mp hq with rfl | hq
    · exact NdefX.TabN.nil (hT _ m1)
    · rcases List.mem_cons.mp hq with rfl | hq
      · exact NdefX.TabN.nil (hT _ m2)
      · cases hq
end K19
open PySem PySem.W PySem.Calls PyProof.Rows
theorem PySem.Challenge.cw_flagclause_k19_whole_repeated_calls_holds : PySem.Challenge.rw_flagclause_k19_whole_repeated_calls.Holds := by
  w_on; o_law
  refine HandSHeadRun.head_any (r := OpenLaw.row PySem.Challenge.rw_flagclause_k19_whole_repeated_calls) (q := view (OpenLaw.row PySem.Challenge.rw_flagclause_k19_whole_repeated_calls).prog [78]) (H := K19.hk) (ob := K19.ob) (M := 6000) (loose := K19.loose) (d := HandSHeadRun.topDef (OpenLaw.row PySem.Challenge.rw_flagclause_k19_whole_repeated_calls).prog 78) (kwd := []) K19.ob_eq
    (by kernel_rfl) (fun s => by kernel_rfl) K19.run (by kernel_rfl) (by kernel_rfl) (by kernel_rfl) (by rfl) (by first | assumption | decide +kernel) (by decide +kernel) ⟨rfl, rfl, rfl, rfl, rfl, by decide +kernel⟩ ?hw ?hc
  case hw => w_witness2
  case hc =>
    refine LamX.walk_ofTsE (l := PySem.Challenge.rw_flagclause_k19_whole_repeated_calls) (n := 63) (k := 12) (x := "_law_script") (CX := fun _ => L2.CX0) rfl (by decide) (by kernel_rfl) ⟨rfl, by decide, by decide⟩ ?F (fun _ _ _ _ _ z => z)
    intro w mg fa h Y G hmg0
    obtain ⟨K, KX, c⟩ := Y
    have hmg : mg ("law" : PySem.Str) = some (.ref fa) := by
      have e : (HandSHeadRun.topDef (OpenLaw.row PySem.Challenge.rw_flagclause_k19_whole_repeated_calls).prog 78).name = ("law" : PySem.Str) := by kernel_rfl
      rw [← e]
      exact hmg0
    exact ⟨K, KX, K19.law_at KX G hmg c⟩
